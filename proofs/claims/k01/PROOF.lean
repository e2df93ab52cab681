import PyProof.Rows.All
import Wide.All
import OpenK.AllK
import Wide.FinOn
import HandS.ForMost
import HandS.Wide
import HandS.WideBits
import HandS.TupAny
import HandS.TupMul
import HandS.IsInst
import HandS.Style
import HandS.More
import HandS.Deep
import HandS.Walk
import HandS.Small
import PyProof.ListMulRoad
import PyProof.FactsAll.tuple_2
import KE.GoesMore
import KE.GoesEnum
import HandS.Zip
import PySem.Challenge.RW_cheapbymarks_k01_words_judged
set_option Elab.async false
set_option linter.all false
set_option maxRecDepth 100000
namespace Iv
open PySem PySem.Spec PyProof.Rows L2

/-! values of the interpreter -/
inductive D where
  | non | bl (b : Bool) | int (i : Int) | str (x : Str) | tup (xs : List D) | rol (xs : List D) | loc (n : Nat)
  deriving Inhabited

/-! cells of its store -/
inductive C where
  | lst (xs : List D)
  | dK (kvs : List (Key × D))
  | dT (kvs : List (List Key × D))
  deriving Inhabited
abbrev Sto := List C

mutual
inductive RD (K : PySem.W.Frag) (ρ : List Addr) (H : Hp) : V → D → Prop
  | non : RD K ρ H .non .non
  | bl (b : Bool) : RD K ρ H (.bl b) (.bl b)
  | int (i : Int) : RD K ρ H (.int i) (.int i)
  | str (x : Str) : RD K ρ H (.str x) (.str x)
  | tup {a : Addr} {vs : List V} {ds : List D} : SqT K H a vs → RDs K ρ H vs ds → RD K ρ H (.ref a) (.tup ds)
  | rol {a : Addr} {vs : List V} {ds : List D} : ((∃ o, H a = some (.frz o (.lst vs))) ∨ ∀ H', SqL K H' a vs) → RDs K ρ H vs ds → RD K ρ H (.ref a) (.rol ds)
  | loc {a : Addr} {n : Nat} : ρ[n]? = some a → RD K ρ H (.ref a) (.loc n)
inductive RDs (K : PySem.W.Frag) (ρ : List Addr) (H : Hp) : List V → List D → Prop
  | nil : RDs K ρ H [] []
  | cons {v : V} {vs : List V} {d : D} {ds : List D} : RD K ρ H v d → RDs K ρ H vs ds → RDs K ρ H (v :: vs) (d :: ds)
end

/-- what is not one of the changing kinds stays -/
def Fix : HO → Prop
  | .lst _ => False
  | .dK _ => False
  | .dT _ => False
  | _ => True
def Tk (H H' : Hp) : Prop := ∀ b u, H b = some u → Fix u → H' b = some u
theorem Tk.refl (H : Hp) : Tk H H := fun _ _ h _ => h
theorem Tk.trans {A B E : Hp} (h : Tk A B) (g : Tk B E) : Tk A E := fun b u e x => g b u (h b u e x) x
theorem Tk.new {H : Hp} {p : Addr} {o : HO} (h : H p = none) : Tk H (upd H p o) := fun b u e _ => by
  rw [upd_ne (ne_of_none e h)]; exact e
theorem Tk.put {H : Hp} {a : Addr} {o u : HO} (h : H a = some u) (m : ¬ Fix u) : Tk H (upd H a o) := fun b w e x => by
  have : b ≠ a := fun z => by subst z; rw [h] at e; cases e; exact m x
  rw [upd_ne this]; exact e
theorem Tk.seq {K : PySem.W.Frag} {H H' : Hp} (t : Tk H H') {a : Addr} {vs : List V} (h : SqT K H a vs) : SqT K H' a vs := by
  rcases h with (h | ⟨o, h⟩) | h
  · exact .inl (.inl (t _ _ h trivial))
  · exact .inl (.inr ⟨o, t _ _ h trivial⟩)
  · exact .inr h

/-- the places grow, the fixed things stay -/
structure Ext (ρ ρ' : List Addr) (H H' : Hp) : Prop where
  pre : ρ <+: ρ'
  tk : Tk H H'
theorem Ext.refl (ρ : List Addr) (H : Hp) : Ext ρ ρ H H := ⟨List.prefix_refl _, Tk.refl _⟩
theorem Ext.trans {a b c : List Addr} {A B E : Hp} (h : Ext a b A B) (g : Ext b c B E) : Ext a c A E := ⟨h.pre.trans g.pre, h.tk.trans g.tk⟩
theorem pre_get {ρ ρ' : List Addr} (h : ρ <+: ρ') {n : Nat} {a : Addr} (e : ρ[n]? = some a) : ρ'[n]? = some a := by
  obtain ⟨t, rfl⟩ := h
  have hn : n < ρ.length := (List.getElem?_eq_some_iff.mp e).1
  rw [List.getElem?_append_left hn]; exact e

section
variable {K : PySem.W.Frag} {ρ ρ' : List Addr} {H H' : Hp}
mutual
theorem RD.mono (x : Ext ρ ρ' H H') : ∀ {v : V} {d : D}, RD K ρ H v d → RD K ρ' H' v d
  | _, _, .non => .non
  | _, _, .bl b => .bl b
  | _, _, .int i => .int i
  | _, _, .str s => .str s
  | _, _, .tup h r => .tup (x.tk.seq h) (RDs.mono x r)
  | _, _, .rol h r => .rol (h.elim (fun ⟨o, e⟩ => .inl ⟨o, x.tk _ _ e trivial⟩) .inr) (RDs.mono x r)
  | _, _, .loc h => .loc (pre_get x.pre h)
theorem RDs.mono (x : Ext ρ ρ' H H') : ∀ {vs : List V} {ds : List D}, RDs K ρ H vs ds → RDs K ρ' H' vs ds
  | _, _, .nil => .nil
  | _, _, .cons h t => .cons (RD.mono x h) (RDs.mono x t)
end
theorem RDs.length : ∀ {vs : List V} {ds : List D}, RDs K ρ H vs ds → vs.length = ds.length
  | _, _, .nil => rfl
  | _, _, .cons _ t => congrArg Nat.succ (RDs.length t)
theorem RDs.append : ∀ {vs us : List V} {ds es : List D}, RDs K ρ H vs ds → RDs K ρ H us es → RDs K ρ H (vs ++ us) (ds ++ es)
  | _, _, _, _, .nil, g => g
  | _, _, _, _, .cons h t, g => .cons h (RDs.append t g)
theorem RDs.get : ∀ {vs : List V} {ds : List D} {i : Nat} {d : D}, RDs K ρ H vs ds → ds[i]? = some d → ∃ v, vs[i]? = some v ∧ RD K ρ H v d
  | _, _, _, _, .nil, e => by simp at e
  | _, _, 0, _, .cons h _, e => by simp at e; subst e; exact ⟨_, rfl, h⟩
  | _, _, i + 1, d, .cons _ t, e => by
    obtain ⟨v, h1, h2⟩ := RDs.get (i := i) (d := d) t (by simpa using e)
    exact ⟨v, by simpa using h1, h2⟩
theorem RDs.getV : ∀ {vs : List V} {ds : List D} {i : Nat} {v : V}, RDs K ρ H vs ds → vs[i]? = some v → ∃ d, ds[i]? = some d ∧ RD K ρ H v d
  | _, _, _, _, .nil, e => by simp at e
  | _, _, 0, _, .cons h _, e => by simp at e; subst e; exact ⟨_, rfl, h⟩
  | _, _, i + 1, v, .cons _ t, e => by
    obtain ⟨d, h1, h2⟩ := RDs.getV (i := i) (v := v) t (by simpa using e)
    exact ⟨d, by simpa using h1, h2⟩
theorem RDs.set {v : V} {d : D} (r : RD K ρ H v d) : ∀ {vs : List V} {ds : List D} (i : Nat), RDs K ρ H vs ds → RDs K ρ H (vs.set i v) (ds.set i d)
  | _, _, _, .nil => .nil
  | _, _, 0, .cons _ t => .cons r t
  | _, _, i + 1, .cons h t => .cons h (RDs.set r i t)
theorem RDs.take : ∀ {vs : List V} {ds : List D} (n : Nat), RDs K ρ H vs ds → RDs K ρ H (vs.take n) (ds.take n)
  | _, _, 0, _ => .nil
  | _, _, _ + 1, .nil => .nil
  | _, _, n + 1, .cons h t => .cons h (RDs.take n t)
theorem RDs.drop : ∀ {vs : List V} {ds : List D} (n : Nat), RDs K ρ H vs ds → RDs K ρ H (vs.drop n) (ds.drop n)
  | _, _, 0, r => r
  | _, _, _ + 1, .nil => .nil
  | _, _, n + 1, .cons _ t => RDs.drop n t
theorem RDs.rev : ∀ {vs : List V} {ds : List D}, RDs K ρ H vs ds → RDs K ρ H vs.reverse ds.reverse
  | _, _, .nil => .nil
  | _, _, .cons h t => by
    rw [List.reverse_cons, List.reverse_cons]
    exact (RDs.rev t).append (.cons h .nil)
theorem RDs.dropLast {vs : List V} {ds : List D} (r : RDs K ρ H vs ds) : RDs K ρ H vs.dropLast ds.dropLast := by
  rw [List.dropLast_eq_take, List.dropLast_eq_take, r.length]; exact r.take _
theorem RDs.rep {vs : List V} {ds : List D} (r : RDs K ρ H vs ds) : ∀ k : Nat, RDs K ρ H (List.replicate k vs).flatten (List.replicate k ds).flatten
  | 0 => .nil
  | k + 1 => by
    rw [List.replicate_succ, List.replicate_succ, List.flatten_cons, List.flatten_cons]
    exact r.append (RDs.rep r k)
theorem RDs.ints : ∀ ns : List Int, RDs K ρ H (ns.map V.int) (ns.map D.int)
  | [] => .nil
  | n :: ns => .cons (.int n) (RDs.ints ns)
theorem RDs.eraseIdx : ∀ {vs : List V} {ds : List D} (i : Nat), RDs K ρ H vs ds → RDs K ρ H (vs.eraseIdx i) (ds.eraseIdx i)
  | _, _, _, .nil => .nil
  | _, _, 0, .cons _ t => t
  | _, _, i + 1, .cons h t => .cons h (RDs.eraseIdx i t)
end

abbrev RKV (K : PySem.W.Frag) (ρ : List Addr) (H : Hp) {κ : Type} : List (κ × V) → List (κ × D) → Prop := Paired fun (p : κ × V) (q : κ × D) => p.1 = q.1 ∧ RD K ρ H p.2 q.2
theorem RKV.mono {K : PySem.W.Frag} {ρ ρ' : List Addr} {H H' : Hp} {κ : Type} {ws : List (κ × V)} {kvs : List (κ × D)} (x : Ext ρ ρ' H H') (h : RKV K ρ H ws kvs) : RKV K ρ' H' ws kvs :=
  Paired.mapP h fun _ _ z => ⟨z.1, z.2.mono x⟩

/-- a cell of the store, as it stands at a -/
def CellOk (K : PySem.W.Frag) (ρ : List Addr) (H : Hp) (a : Addr) : C → Prop
  | .lst ds => ∃ vs, H a = some (.lst vs) ∧ RDs K ρ H vs ds
  | .dK kvs => ∃ ws, H a = some (.dK ws) ∧ RKV K ρ H ws kvs
  | .dT kvs => ∃ ws, H a = some (.dT ws) ∧ RKV K ρ H ws kvs
theorem CellOk.some {K : PySem.W.Frag} {ρ : List Addr} {H : Hp} {a : Addr} : ∀ {c : C}, CellOk K ρ H a c → ∃ u, H a = some u ∧ ¬ Fix u
  | .lst _, ⟨_, e, _⟩ => ⟨_, e, fun z => z⟩
  | .dK _, ⟨_, e, _⟩ => ⟨_, e, fun z => z⟩
  | .dT _, ⟨_, e, _⟩ => ⟨_, e, fun z => z⟩
theorem CellOk.mono {K : PySem.W.Frag} {ρ ρ' : List Addr} {H H' : Hp} {a : Addr} (x : Ext ρ ρ' H H') (e : H' a = H a) : ∀ {c : C}, CellOk K ρ H a c → CellOk K ρ' H' a c
  | .lst _, ⟨vs, q, r⟩ => ⟨vs, e.trans q, r.mono x⟩
  | .dK _, ⟨vs, q, r⟩ => ⟨vs, e.trans q, r.mono x⟩
  | .dT _, ⟨vs, q, r⟩ => ⟨vs, e.trans q, r.mono x⟩

/-- the store as it stands in the heap: cell n at the place ρ n -/
structure RS (K : PySem.W.Frag) (ρ : List Addr) (H : Hp) (st : Sto) : Prop where
  len : ρ.length = st.length
  nd : ρ.Nodup
  cell : ∀ (n : Nat) (c : C), st[n]? = some c → ∃ a, ρ[n]? = some a ∧ CellOk K ρ H a c
section
variable {K : PySem.W.Frag} {ρ ρ' : List Addr} {H H' : Hp} {st : Sto}
theorem RS.mem (r : RS K ρ H st) {a : Addr} (h : a ∈ ρ) : ∃ u, H a = some u ∧ ¬ Fix u := by
  obtain ⟨n, hn, e⟩ := List.getElem_of_mem h
  have hs : n < st.length := by rw [← r.len]; exact hn
  obtain ⟨b, e2, c⟩ := r.cell n st[n] (List.getElem?_eq_getElem hs)
  rw [List.getElem?_eq_getElem hn] at e2
  have : a = b := by rw [← e]; exact Option.some.inj e2
  subst this
  exact c.some
theorem RS.at (r : RS K ρ H st) {n : Nat} {c : C} {a : Addr} (h : st[n]? = some c) (e : ρ[n]? = some a) : CellOk K ρ H a c := by
  obtain ⟨b, e2, q⟩ := r.cell n c h
  rw [e] at e2
  cases e2
  exact q
theorem RS.lst (r : RS K ρ H st) {n : Nat} {ds : List D} {a : Addr} (h : st[n]? = some (.lst ds)) (e : ρ[n]? = some a) : ∃ vs, H a = some (.lst vs) ∧ RDs K ρ H vs ds := r.at h e
theorem RS.dK (r : RS K ρ H st) {n : Nat} {ds : List (Key × D)} {a : Addr} (h : st[n]? = some (.dK ds)) (e : ρ[n]? = some a) : ∃ vs, H a = some (.dK vs) ∧ RKV K ρ H vs ds := r.at h e
theorem RS.dT (r : RS K ρ H st) {n : Nat} {ds : List (List Key × D)} {a : Addr} (h : st[n]? = some (.dT ds)) (e : ρ[n]? = some a) : ∃ vs, H a = some (.dT vs) ∧ RKV K ρ H vs ds := r.at h e
/-- a new object that is no cell -/
theorem RS.skip (r : RS K ρ H st) {p : Addr} (h : H p = none) (o : HO) : RS K ρ (upd H p o) st := by
  refine ⟨r.len, r.nd, fun n c e => ?_⟩
  obtain ⟨a, e1, q⟩ := r.cell n c e
  obtain ⟨u, e2, _⟩ := q.some
  exact ⟨a, e1, q.mono ⟨List.prefix_refl _, Tk.new h⟩ (upd_ne (ne_of_none e2 h))⟩
/-- a new cell -/
theorem RS.new (r : RS K ρ H st) {p : Addr} (h : H p = none) {o : HO} {c : C} (hc : CellOk K ρ (upd H p o) p c) : RS K (ρ ++ [p]) (upd H p o) (st ++ [c]) ∧ Ext ρ (ρ ++ [p]) H (upd H p o) := by
  have x : Ext ρ (ρ ++ [p]) H (upd H p o) := ⟨List.prefix_append _ _, Tk.new h⟩
  have x' : Ext ρ (ρ ++ [p]) (upd H p o) (upd H p o) := ⟨List.prefix_append _ _, Tk.refl _⟩
  have np : p ∉ ρ := fun z => by
    obtain ⟨u, e, _⟩ := r.mem z
    rw [h] at e; cases e
  refine ⟨⟨by simp [r.len], ?_, fun n c' e => ?_⟩, x⟩
  · rw [List.nodup_append]
    refine ⟨r.nd, by simp, fun a ha b hb => ?_⟩
    have : b = p := by simpa using hb
    subst this
    exact fun z => np (z ▸ ha)
  · by_cases hn : n < st.length
    · rw [List.getElem?_append_left hn] at e
      obtain ⟨a, e1, q⟩ := r.cell n c' e
      obtain ⟨u, e2, _⟩ := q.some
      exact ⟨a, pre_get x.pre e1, q.mono x (upd_ne (ne_of_none e2 h))⟩
    · have hn' : n = st.length := by
        have := (List.getElem?_eq_some_iff.mp e).1
        simp at this
        omega
      subst hn'
      rw [List.getElem?_append_right (Nat.le_refl _), Nat.sub_self] at e
      have e' : c = c' := by simpa using e
      subst e'
      refine ⟨p, ?_, hc.mono x' rfl⟩
      rw [← r.len, List.getElem?_append_right (Nat.le_refl _), Nat.sub_self]
      rfl
theorem RS.newL (r : RS K ρ H st) {p : Addr} (h : H p = none) {vs : List V} {ds : List D} (q : RDs K ρ H vs ds) :
    RS K (ρ ++ [p]) (upd H p (.lst vs)) (st ++ [.lst ds]) ∧ Ext ρ (ρ ++ [p]) H (upd H p (.lst vs)) :=
  r.new h ⟨vs, upd_same, q.mono ⟨List.prefix_refl _, Tk.new h⟩⟩
theorem RS.newRef (r : RS K ρ H st) {p : Addr} {H' : Hp} : RD K (ρ ++ [p]) H' (.ref p) (.loc st.length) := .loc (by
  rw [← r.len, List.getElem?_append_right (Nat.le_refl _), Nat.sub_self]; rfl)
/-- a cell is changed -/
theorem RS.put (r : RS K ρ H st) {n : Nat} {c0 c : C} {a : Addr} {o : HO} (h : st[n]? = some c0) (e : ρ[n]? = some a) (hc : CellOk K ρ (upd H a o) a c) :
    RS K ρ (upd H a o) (st.set n c) ∧ Ext ρ ρ H (upd H a o) := by
  obtain ⟨u, hu, nf⟩ := (r.at h e).some
  have x : Ext ρ ρ H (upd H a o) := ⟨List.prefix_refl _, Tk.put hu nf⟩
  have hnρ : n < ρ.length := (List.getElem?_eq_some_iff.mp e).1
  refine ⟨⟨by simp [r.len], r.nd, fun m c' e' => ?_⟩, x⟩
  by_cases hm : n = m
  · subst hm
    have hl : n < st.length := (List.getElem?_eq_some_iff.mp h).1
    rw [List.getElem?_set_self hl] at e'
    cases e'
    exact ⟨a, e, hc⟩
  · rw [List.getElem?_set_ne hm] at e'
    obtain ⟨b, e1, q⟩ := r.cell m c' e'
    refine ⟨b, e1, q.mono x (upd_ne fun z => ?_)⟩
    subst z
    have hm' : m < ρ.length := (List.getElem?_eq_some_iff.mp e1).1
    rw [List.getElem?_eq_getElem hnρ] at e
    rw [List.getElem?_eq_getElem hm'] at e1
    exact hm ((List.getElem_inj r.nd).mp ((Option.some.inj e).trans (Option.some.inj e1).symm))
theorem RS.putL (r : RS K ρ H st) {n : Nat} {c0 : C} {a : Addr} {vs : List V} {ds : List D} (h : st[n]? = some c0) (e : ρ[n]? = some a) (q : RDs K ρ H vs ds) :
    RS K ρ (upd H a (.lst vs)) (st.set n (.lst ds)) ∧ Ext ρ ρ H (upd H a (.lst vs)) := by
  obtain ⟨u, hu, nf⟩ := (r.at h e).some
  exact r.put h e ⟨vs, upd_same, q.mono ⟨List.prefix_refl _, Tk.put hu nf⟩⟩
end

/-- what a result is: the end for every heap that holds it -/
def Fin (K : PySem.W.Frag) (ρ : List Addr) (H : Hp) (d : D) (st : Sto) (Q : VK) : Prop :=
  ∀ v ρ' H', Ext ρ ρ' H H' → RS K ρ' H' st → RD K ρ' H' v d → Q v H'
theorem Fin.here {K : PySem.W.Frag} {ρ : List Addr} {H : Hp} {d : D} {st : Sto} {Q : VK} (f : Fin K ρ H d st Q) {v : V} (r : RS K ρ H st) (h : RD K ρ H v d) : Q v H := f v ρ H (Ext.refl _ _) r h
theorem Fin.tup {K : PySem.W.Frag} {ρ : List Addr} {H : Hp} {ds : List D} {st : Sto} {Q : VK} (f : Fin K ρ H (.tup ds) st Q) (r : RS K ρ H st) {vs : List V} (q : RDs K ρ H vs ds) {p : Addr} (h : H p = none) : Q (.ref p) (upd H p (.tup vs)) :=
  f _ ρ _ ⟨List.prefix_refl _, Tk.new h⟩ (r.skip h _) (.tup (SqT.of upd_same) (q.mono ⟨List.prefix_refl _, Tk.new h⟩))
theorem Fin.lst {K : PySem.W.Frag} {ρ : List Addr} {H : Hp} {ds : List D} {st : Sto} {Q : VK} (f : Fin K ρ H (.loc st.length) (st ++ [.lst ds]) Q) (r : RS K ρ H st) {vs : List V} (q : RDs K ρ H vs ds) {p : Addr} (h : H p = none) : Q (.ref p) (upd H p (.lst vs)) :=
  f _ _ _ (r.newL h q).2 (r.newL h q).1 r.newRef
theorem Fin.weak {K : PySem.W.Frag} {ρ ρ' : List Addr} {H H' : Hp} {d : D} {st : Sto} {Q : VK} (f : Fin K ρ H d st Q) (x : Ext ρ ρ' H H') : Fin K ρ' H' d st Q := fun v r h y => f v r h (x.trans y)
end Iv
set_option Elab.async false
set_option linter.all false
set_option maxRecDepth 100000
namespace Iv
open PySem PySem.Spec PyProof.Rows L2

inductive Ty where | int | bool | str | tuple | list | dict
  deriving DecidableEq
inductive Bi where | len | abs | sum | tuple | list | int | repr | max2 | min2 | dict | any | all | dict0 | str
  deriving DecidableEq
inductive Me where | append | extend | pop | popAt | insert | join | index | get1 | get2 | reverse
  deriving DecidableEq
mutual
inductive T where
  | nm (i : Nat)
  | tp (ts : Ts)
inductive Ts where
  | nil
  | cons (t : T) (ts : Ts)
end
mutual
inductive E where
  | var (i : Nat) | glb (g : Nat) | non | bl (b : Bool) | int (i : Int) | str (x : Str)
  | tup (es : Es) | lst (es : Es) | dct0
  | bin (op : Operator) (a b : E) | neg (a : E)
  | cmp (op : CmpOp) (a b : E) | chn (op op' : CmpOp) (a b c : E)
  | and (a b : E) | or (a b : E) | not (a : E) | ife (c a b : E)
  | idx (a i : E) | slc (a : E) (lo hi : OE) | rev (a : E)
  | call (f : Nat) (es : Es) | calk (k : Nat) (es ks : Es)
  | bi (b : Bi) (es : Es) | isi (a : E) (t : Ty) | mth (m : Me) (o : E) (es : Es)
  | lc (elt : E) (t : T) (it : It) (cs : Es) (own : List Nat)
inductive Es where
  | nil
  | cons (e : E) (es : Es)
inductive OE where
  | no
  | so (e : E)
inductive It where
  | val (e : E) | rng1 (a : E) | rng2 (a b : E) | enu (a : E) | zip (a b : E)
end
mutual
inductive S where
  | set (t : T) (e : E) | par2 (i j : Nat) (a b : E) | seti (o i e : E) | aug (i : Nat) (op : Operator) (e : E)
  | ife (c : E) (a b : Ss) | whl (c : E) (b : Ss) | loop (t : T) (it : It) (b : Ss)
  | ret (e : E) | retN | exp (e : E) | brk | cnt | pss
inductive Ss where
  | nil
  | cons (s : S) (ss : Ss)
end

abbrev Env := List (Option D)
abbrev Orc := Nat → List D → Sto → Option (D × Sto)

/-! ### data as a whole -/
mutual
def pyC (g : Nat → Option PyData) : D → Option PyData
  | .non => some .none
  | .bl b => some (.bool b)
  | .int i => some (.int i)
  | .str x => some (.str x)
  | .tup xs => (pyCs g xs).map .tuple
  | .rol xs => (pyCs g xs).map .list
  | .loc n => g n
def pyCs (g : Nat → Option PyData) : List D → Option (List PyData)
  | [] => some []
  | x :: xs => (pyC g x).bind fun d => (pyCs g xs).map (d :: ·)
end
def keyPy : Key → PyData
  | .inl i => .int i
  | .inr x => .str x
def flatPy : D → Option PyData
  | .non => some .none
  | .bl b => some (.bool b)
  | .int i => some (.int i)
  | .str x => some (.str x)
  | _ => none
def kvPy : List (Key × D) → Option (List (PyData × PyData))
  | [] => some []
  | (k, x) :: r => (flatPy x).bind fun d => (kvPy r).map ((keyPy k, d) :: ·)
def pyL : Nat → Sto → D → Option PyData
  | 0, _, d => pyC (fun _ => none) d
  | f + 1, st, d => pyC (fun n => match st[n]? with
      | some (.lst xs) => (pyCs (fun m => pyL f st (.loc m)) xs).map .list
      | _ => none) d
/-- .. also a dict, at the head -/
def pyR (st : Sto) (d : D) : Option PyData := match d with
  | .loc n => match st[n]? with
    | some (.dK kvs) => (kvPy kvs).map .dict
    | _ => pyL 64 st d
  | _ => pyL 64 st d

/-! ### operations -/
def opB (op : Operator) (x y : D) (st : Sto) : Option (D × Sto) :=
  match op, x, y with
  | .Add, .int i, .int j => some (.int (i + j), st)
  | .Add, .str a, .str b => if a.length + b.length ≤ sizeLine then some (.str (a ++ b), st) else none
  | .Add, .tup a, .tup b => if a.length + b.length ≤ sizeLine then some (.tup (a ++ b), st) else none
  | .Add, .loc m, .loc n => match st[m]?, st[n]? with
    | some (.lst a), some (.lst b) => if a.length + b.length ≤ sizeLine then some (.loc st.length, st ++ [.lst (a ++ b)]) else none
    | _, _ => none
  | .Sub, .int i, .int j => some (.int (i - j), st)
  | .Mult, .int i, .int j => if i.natAbs.log2 + j.natAbs.log2 < 1000000 then some (.int (i * j), st) else none
  | .Mult, .tup a, .int k => if 0 ≤ k ∧ k ≤ 1000 ∧ a.length ≤ 1000 then some (.tup (List.replicate k.toNat a).flatten, st) else none
  | .Mult, .loc m, .int k => match st[m]? with
    | some (.lst a) => if 0 ≤ k ∧ k ≤ 1000 ∧ a.length ≤ 1000 then some (.loc st.length, st ++ [.lst (List.replicate k.toNat a).flatten]) else none
    | _ => none
  | .FloorDiv, .int i, .int j => if 0 < j ∧ j.natAbs.log2 < 9000 then some (.int (i / j), st) else none
  | .Mod, .int i, .int j => if 0 < j then some (.int (i % j), st) else none
  | .Pow, .int i, .int j => if 0 ≤ j ∧ j ≤ 1000000 ∧ i.natAbs < 2 ^ 64 then some (.int (i ^ j.toNat), st) else none
  | _, _, _ => none
def eqD (st : Sto) (x y : D) : Option Bool :=
  match x, y with
  | .int i, .int j => some (decide (i = j))
  | .bl i, .bl j => some (decide (i = j))
  | .str i, .str j => some (decide (i = j))
  | _, _ => (pyL 64 st x).bind fun d => (pyL 64 st y).bind fun e => if SeqAt.shaped d = true ∧ SeqAt.shaped e = true then some (PyData.eqv d e) else none
def itemsOf (st : Sto) : D → Option (List D)
  | .tup xs => some xs
  | .rol xs => some xs
  | .loc n => match st[n]? with
    | some (.lst xs) => some xs
    | _ => none
  | _ => none
def flatD : D → Option V
  | .non => some .non
  | .bl b => some (.bl b)
  | .int i => some (.int i)
  | .str x => some (.str x)
  | _ => none
def flatDs : List D → Option (List V)
  | [] => some []
  | x :: xs => (flatD x).bind fun v => (flatDs xs).map (v :: ·)
def inD (st : Sto) (x y : D) : Option Bool :=
  match x, y with
  | .str a, .str b => some (!(Builtin.Str.occurrences b a 0 b.length 1).isEmpty)
  | _, _ => (itemsOf st y).bind fun ys => (flatD x).bind fun v => (flatDs ys).map fun vs => inV v vs
def opC (op : CmpOp) (x y : D) (st : Sto) : Option Bool :=
  match op, x, y with
  | .Eq, x, y => eqD st x y
  | .NotEq, x, y => (eqD st x y).map (!·)
  | .Lt, .int i, .int j => some (decide (i < j))
  | .LtE, .int i, .int j => some (decide (i ≤ j))
  | .Gt, .int i, .int j => some (decide (j < i))
  | .GtE, .int i, .int j => some (decide (j ≤ i))
  | .Is, .non, .non => some true
  | .Is, .bl _, .non => some false
  | .Is, .int _, .non => some false
  | .Is, .str _, .non => some false
  | .Is, .tup _, .non => some false
  | .Is, .loc _, .non => some false
  | .IsNot, .non, .non => some false
  | .IsNot, .bl _, .non => some true
  | .IsNot, .int _, .non => some true
  | .IsNot, .str _, .non => some true
  | .IsNot, .tup _, .non => some true
  | .IsNot, .loc _, .non => some true
  | .In, x, y => inD st x y
  | .NotIn, x, y => (inD st x y).map (!·)
  | _, _, _ => none
def cutD (xs : List D) (lo hi : Option Int) : List D := (xs.drop (HT.sIx xs.length 0 lo)).take (HT.sIx xs.length xs.length hi - HT.sIx xs.length 0 lo)
def opSl (x : D) (lo hi : Option Int) (st : Sto) : Option (D × Sto) :=
  match x with
  | .tup xs => some (.tup (cutD xs lo hi), st)
  | .rol xs => some (.loc st.length, st ++ [.lst (cutD xs lo hi)])
  | .str z => if z.length ≤ sizeLine then some (.str (cutS z lo hi), st) else none
  | .loc n => match st[n]? with
    | some (.lst xs) => some (.loc st.length, st ++ [.lst (cutD xs lo hi)])
    | _ => none
  | _ => none
def opIx (x y : D) (st : Sto) : Option D :=
  match x, y with
  | .tup xs, .int i => atI xs i
  | .rol xs, .int i => atI xs i
  | .loc n, .int i => match st[n]? with
    | some (.lst xs) => atI xs i
    | _ => none
  | .str z, .int i => if z.length ≤ sizeLine then (atI z.cps.toList i).map fun c => .str ⟨#[c]⟩ else none
  | _, _ => none
def opRev (x : D) (st : Sto) : Option (D × Sto) :=
  match x with
  | .rol xs => some (.loc st.length, st ++ [.lst xs.reverse])
  | .loc n => match st[n]? with
    | some (.lst xs) => some (.loc st.length, st ++ [.lst xs.reverse])
    | _ => none
  | _ => none
def intsOf : List D → Option (List Int)
  | [] => some []
  | .int i :: r => (intsOf r).map (i :: ·)
  | _ => none
def tyB (t : Ty) (x : D) (st : Sto) : Option Bool :=
  match x with
  | .non => some false
  | .bl _ => some (t == .int || t == .bool)
  | .int _ => some (t == .int)
  | .str _ => some (t == .str)
  | .tup _ => some (t == .tuple)
  | .rol _ => none
  | .loc n => match st[n]? with
    | some (.lst _) => some (t == .list)
    | some (.dK _) => some (t == .dict)
    | some (.dT _) => some (t == .dict)
    | _ => none
def reprD (st : Sto) (x : D) : Option Str :=
  (pyR st x).bind fun d => if d.showable = true ∧ d.shown.length ≤ sizeLine ∧ d.depth ≤ 100 then some d.shown else none
/-- (key, value) pairs of a list of pairs with int or str keys -/
def pairsOf : List D → Option (List (Key × D))
  | [] => some []
  | .tup [.int i, x] :: r => (pairsOf r).map ((.inl i, x) :: ·)
  | .tup [.str z, x] :: r => (pairsOf r).map ((.inr z, x) :: ·)
  | _ => none
def opBi (b : Bi) (ds : List D) (st : Sto) : Option (D × Sto) :=
  match b, ds with
  | .len, [.tup xs] => some (.int xs.length, st)
  | .len, [.rol xs] => some (.int xs.length, st)
  | .len, [.str z] => if z.length ≤ sizeLine then some (.int z.length, st) else none
  | .len, [.loc n] => match st[n]? with
    | some (.lst xs) => some (.int xs.length, st)
    | some (.dK xs) => some (.int xs.length, st)
    | _ => none
  | .abs, [.int i] => some (.int (if i < 0 then -i else i), st)
  | .sum, [x] => (itemsOf st x).bind fun xs => (intsOf xs).map fun ns => (.int ns.sum, st)
  | .tuple, [.tup xs] => some (.tup xs, st)
  | .tuple, [x] => (itemsOf st x).map fun xs => (.tup xs, st)
  | .list, [x] => (itemsOf st x).map fun xs => (.loc st.length, st ++ [.lst xs])
  | .int, [.int i] => some (.int i, st)
  | .int, [.bl k] => some (.int (if k then 1 else 0), st)
  | .repr, [x] => (reprD st x).map fun z => (.str z, st)
  | .max2, [.int i, .int j] => some (.int (if j > i then j else i), st)
  | .min2, [.int i, .int j] => some (.int (if j < i then j else i), st)
  | .dict, [.loc n] => match st[n]? with
    | some (.lst xs) => match pairsOf xs with
      | some [p] => some (.loc st.length, st ++ [.dK [p]])
      | _ => none
    | _ => none
  | _, _ => none
def opMe (m : Me) (o : D) (ds : List D) (st : Sto) : Option (D × Sto) :=
  match m, o, ds with
  | .append, .loc n, [d] => match st[n]? with
    | some (.lst xs) => if xs.length < sizeLine then some (.non, st.set n (.lst (xs ++ [d]))) else none
    | _ => none
  | .extend, .loc n, [.loc m] => match st[n]?, st[m]? with
    | some (.lst xs), some (.lst ys) => if xs.length + ys.length ≤ sizeLine then some (.non, st.set n (.lst (xs ++ ys))) else none
    | _, _ => none
  | .pop, .loc n, [] => match st[n]? with
    | some (.lst xs) => (xs[xs.length - 1]?).map fun y => (y, st.set n (.lst xs.dropLast))
    | _ => none
  | .popAt, .loc n, [.int i] => match st[n]? with
    | some (.lst xs) => (ixN xs.length i).bind fun k => (xs[k]?).map fun y => (y, st.set n (.lst (xs.eraseIdx k)))
    | _ => none
  | _, _, _ => none
/-- the receiver is of the method's kind -/
def rcv (m : Me) (o : D) (st : Sto) : Bool :=
  match m, o with
  | .join, .str _ => true
  | .join, _ => false
  | _, .loc n => match st[n]? with
    | some (.lst _) => true
    | _ => false
  | _, _ => false
/-- o[i] = v -/
def opSet (o i v : D) (st : Sto) : Option Sto :=
  match o, i with
  | .loc n, .int k => match st[n]? with
    | some (.lst xs) => (ixN xs.length k).map fun j => st.set n (.lst (xs.set j v))
    | _ => none
  | _, _ => none

/-! ### targets -/
mutual
def asg : T → D → Env → Option Env
  | .nm i, d, env => if i < env.length then some (env.set i (some d)) else none
  | .tp ts, .tup ds, env => asgs ts ds env
  | .tp _, _, _ => none
def asgs : Ts → List D → Env → Option Env
  | .nil, [], env => some env
  | .cons t ts, d :: ds, env => (asg t d env).bind fun e => asgs ts ds e
  | _, _, _ => none
end
def wipeE (env : Env) : List Nat → Env
  | [] => env
  | v :: vs => (wipeE env vs).set v none

/-! ### what is walked -/
structure Src where
  items : List D
  lk : Option (Nat × List D) := none
def Src.ok (s : Src) (st : Sto) : Prop := ∀ n xs, s.lk = some (n, xs) → st[n]? = some (.lst xs)
def srcOf (st : Sto) : D → Option Src
  | .tup xs => some ⟨xs, none⟩
  | .rol xs => some ⟨xs, none⟩
  | .str z => some ⟨z.cps.toList.map fun c => .str ⟨#[c]⟩, none⟩
  | .loc n => match st[n]? with
    | some (.lst xs) => some ⟨xs, some (n, xs)⟩
    | _ => none
  | _ => none
def enumD : Nat → List D → List D
  | _, [] => []
  | k, x :: xs => .tup [.int k, x] :: enumD (k + 1) xs
def rangeD (lo : Int) : Nat → List D
  | 0 => []
  | n + 1 => .int lo :: rangeD (lo + 1) n
def zipD : List D → List D → List D
  | x :: xs, y :: ys => .tup [x, y] :: zipD xs ys
  | _, _ => []

inductive O where | nx (e : Env) | rt (d : D) | bk (e : Env) | ct (e : Env)

/-- the loop of a comprehension: the new list is the cell n -/
noncomputable def lcL (one : D → Sto → Option (Option D × Sto)) (src : Src) (n : Nat) : List D → Sto → Option Sto
  | [], st => open Classical in if src.ok st then some st else none
  | x :: xs, st => open Classical in if src.ok st then
      (one x st).bind fun r => match r with
        | (none, st') => lcL one src n xs st'
        | (some y, st') => match st'[n]? with
          | some (.lst acc) => if acc.length < sizeLine then lcL one src n xs (st'.set n (.lst (acc ++ [y]))) else none
          | _ => none
    else none
noncomputable def forL (body : D → Env → Sto → Option (O × Sto)) (src : Src) : List D → Env → Sto → Option (O × Sto)
  | [], env, st => open Classical in if src.ok st then some (.nx env, st) else none
  | x :: xs, env, st => open Classical in if src.ok st then
      (body x env st).bind fun r => match r with
        | (.nx e, st') => forL body src xs e st'
        | (.ct e, st') => forL body src xs e st'
        | (.bk e, st') => some (.nx e, st')
        | (.rt d, st') => some (.rt d, st')
    else none
def whL (c : Env → Sto → Option (Bool × Sto)) (b : Env → Sto → Option (O × Sto)) : Nat → Env → Sto → Option (O × Sto)
  | 0, _, _ => none
  | k + 1, env, st => (c env st).bind fun r => match r with
    | (false, st') => some (.nx env, st')
    | (true, st') => (b env st').bind fun q => match q with
      | (.nx e, s2) => whL c b k e s2
      | (.ct e, s2) => whL c b k e s2
      | (.bk e, s2) => some (.nx e, s2)
      | (.rt d, s2) => some (.rt d, s2)

/-! ### the evaluator -/
structure Cfg where
  F : Orc
  G : Nat → Option D
  KW : Nat → Nat × List Nat
  W : Nat
def asB : D → Option Bool
  | .bl b => some b
  | _ => none
mutual
noncomputable def evE (g : Cfg) : E → Env → Sto → Option (D × Sto)
  | .var i, env, st => (env[i]?.join).map fun d => (d, st)
  | .glb k, _, st => (g.G k).map fun d => (d, st)
  | .non, _, st => some (.non, st)
  | .bl b, _, st => some (.bl b, st)
  | .int i, _, st => some (.int i, st)
  | .str x, _, st => some (.str x, st)
  | .tup es, env, st => (evEs g es env st).bind fun r => some (.tup r.1, r.2)
  | .lst es, env, st => (evEs g es env st).bind fun r => some (.loc r.2.length, r.2 ++ [.lst r.1])
  | .dct0, _, st => some (.loc st.length, st ++ [.dK []])
  | .bin op a b, env, st => (evE g a env st).bind fun r => (evE g b env r.2).bind fun q => opB op r.1 q.1 q.2
  | .neg a, env, st => (evE g a env st).bind fun r => match r.1 with
    | .int i => some (.int (-i), r.2)
    | _ => none
  | .cmp op a b, env, st => (evE g a env st).bind fun r => (evE g b env r.2).bind fun q => (opC op r.1 q.1 q.2).map fun k => (.bl k, q.2)
  | .chn op op' a b c, env, st => (evE g a env st).bind fun r => (evE g b env r.2).bind fun q => (opC op r.1 q.1 q.2).bind fun k =>
      if k = true then (evE g c env q.2).bind fun p => (opC op' q.1 p.1 p.2).map fun k' => (.bl k', p.2) else some (.bl false, q.2)
  | .and a b, env, st => (evE g a env st).bind fun r => (asB r.1).bind fun k => if k = true then evE g b env r.2 else some (.bl false, r.2)
  | .or a b, env, st => (evE g a env st).bind fun r => (asB r.1).bind fun k => if k = true then some (.bl true, r.2) else evE g b env r.2
  | .not a, env, st => (evE g a env st).bind fun r => (asB r.1).map fun k => (.bl (!k), r.2)
  | .ife c a b, env, st => (evE g c env st).bind fun r => (asB r.1).bind fun k => if k = true then evE g a env r.2 else evE g b env r.2
  | .idx a i, env, st => (evE g a env st).bind fun r => (evE g i env r.2).bind fun q => (opIx r.1 q.1 q.2).map fun d => (d, q.2)
  | .slc a lo hi, env, st => (evE g a env st).bind fun r => (evO g lo env r.2).bind fun l => (evO g hi env l.2).bind fun h => opSl r.1 l.1 h.1 h.2
  | .rev a, env, st => (evE g a env st).bind fun r => opRev r.1 r.2
  | .call f es, env, st => (evEs g es env st).bind fun r => g.F f r.1 r.2
  | .calk k es ks, env, st => (evEs g es env st).bind fun r => (evEs g ks env r.2).bind fun q =>
      g.F (g.KW k).1 ((g.KW k).2.map fun j => ((r.1 ++ q.1)[j]?).getD .non) q.2
  | .bi b es, env, st => (evEs g es env st).bind fun r => opBi b r.1 r.2
  | .isi a t, env, st => (evE g a env st).bind fun r => (tyB t r.1 r.2).map fun k => (.bl k, r.2)
  | .mth m o es, env, st => (evE g o env st).bind fun r => if rcv m r.1 r.2 = true then (evEs g es env r.2).bind fun q => opMe m r.1 q.1 q.2 else none
  | .lc elt t it cs own, env, st => (evI g it env st).bind fun r =>
      (lcL (fun x s => (asg t x (wipeE env own)).bind fun e => (evTs g cs e s).bind fun q =>
        if q.1 = true then (evE g elt e q.2).map fun p => (some p.1, p.2) else some (none, q.2)) r.1 r.2.length r.1.items (r.2 ++ [.lst []])).map fun s => (.loc r.2.length, s)
noncomputable def evEs (g : Cfg) : Es → Env → Sto → Option (List D × Sto)
  | .nil, _, st => some ([], st)
  | .cons e es, env, st => (evE g e env st).bind fun r => (evEs g es env r.2).map fun q => (r.1 :: q.1, q.2)
noncomputable def evO (g : Cfg) : OE → Env → Sto → Option (Option Int × Sto)
  | .no, _, st => some (none, st)
  | .so e, env, st => (evE g e env st).bind fun r => match r.1 with
    | .int i => some (some i, r.2)
    | _ => none
noncomputable def evTs (g : Cfg) : Es → Env → Sto → Option (Bool × Sto)
  | .nil, _, st => some (true, st)
  | .cons e es, env, st => (evE g e env st).bind fun r => (asB r.1).bind fun k => if k = true then evTs g es env r.2 else some (false, r.2)
noncomputable def evI (g : Cfg) : It → Env → Sto → Option (Src × Sto)
  | .val e, env, st => (evE g e env st).bind fun r => (srcOf r.2 r.1).map fun s => (s, r.2)
  | .rng1 a, env, st => (evE g a env st).bind fun r => match r.1 with
    | .int j => if -(2 ^ 62) ≤ j ∧ j < 2 ^ 62 then some (⟨rangeD 0 j.toNat, none⟩, r.2) else none
    | _ => none
  | .rng2 a b, env, st => (evE g a env st).bind fun r => (evE g b env r.2).bind fun q => match r.1, q.1 with
    | .int i, .int j => if -(2 ^ 62) ≤ i ∧ i < 2 ^ 62 ∧ -(2 ^ 62) ≤ j ∧ j < 2 ^ 62 then some (⟨rangeD i (j - i).toNat, none⟩, q.2) else none
    | _, _ => none
  | .enu a, env, st => (evE g a env st).bind fun r => match r.1 with
    | .tup xs => some (⟨enumD 0 xs, none⟩, r.2)
    | .loc n => match r.2[n]? with
      | some (.lst xs) => some (⟨enumD 0 xs, some (n, xs)⟩, r.2)
      | _ => none
    | _ => none
  | .zip a b, env, st => (evE g a env st).bind fun r => (evE g b env r.2).bind fun q => match r.1, q.1 with
    | .tup xs, .tup ys => some (⟨zipD xs ys, none⟩, q.2)
    | _, _ => none
end
mutual
noncomputable def evS (g : Cfg) : S → Env → Sto → Option (O × Sto)
  | .set t e, env, st => (evE g e env st).bind fun r => (asg t r.1 env).map fun n => (.nx n, r.2)
  | .par2 i j a b, env, st => (evE g a env st).bind fun r => (evE g b env r.2).bind fun q =>
      if i < env.length ∧ j < env.length then some (.nx ((env.set i (some r.1)).set j (some q.1)), q.2) else none
  | .seti o i e, env, st => (evE g e env st).bind fun r => (evE g o env r.2).bind fun q => (evE g i env q.2).bind fun p => (opSet q.1 p.1 r.1 p.2).map fun s => (.nx env, s)
  | .aug i op e, env, st => (env[i]?.join).bind fun d => (evE g e env st).bind fun r => match op, d, r.1 with
    | .Add, .int a, .int b => some (.nx (env.set i (some (.int (a + b)))), r.2)
    | .Sub, .int a, .int b => some (.nx (env.set i (some (.int (a - b)))), r.2)
    | _, _, _ => none
  | .ife c a b, env, st => (evE g c env st).bind fun r => (asB r.1).bind fun k => if k = true then evSs g a env r.2 else evSs g b env r.2
  | .whl c b, env, st => whL (fun e s => (evE g c e s).bind fun r => (asB r.1).map fun k => (k, r.2)) (fun e s => evSs g b e s) g.W env st
  | .loop t it b, env, st => (evI g it env st).bind fun r => forL (fun x e s => (asg t x e).bind fun n => evSs g b n s) r.1 r.1.items env r.2
  | .ret e, env, st => (evE g e env st).map fun r => (.rt r.1, r.2)
  | .retN, _, st => some (.rt .non, st)
  | .exp e, env, st => (evE g e env st).map fun r => (.nx env, r.2)
  | .brk, env, st => some (.bk env, st)
  | .cnt, env, st => some (.ct env, st)
  | .pss, env, st => some (.nx env, st)
noncomputable def evSs (g : Cfg) : Ss → Env → Sto → Option (O × Sto)
  | .nil, env, st => some (.nx env, st)
  | .cons s ss, env, st => (evS g s env st).bind fun r => match r with
    | (.nx e, s2) => evSs g ss e s2
    | (o, s2) => some (o, s2)
end
structure Fn where
  np : Nat
  nl : Nat
  body : Ss
/-- the program: the functions by number -/
structure Pg where
  fn : List Fn
  G : Nat → Option D
  KW : Nat → Nat × List Nat
  W : Nat
noncomputable def run (p : Pg) : Nat → Orc
  | 0 => fun _ _ _ => none
  | n + 1 => fun f ds st => match p.fn[f]? with
    | some fn => if ds.length = fn.np ∧ fn.np ≤ fn.nl then
        (evSs ⟨run p n, p.G, p.KW, p.W⟩ fn.body (ds.map some ++ List.replicate (fn.nl - ds.length) none) st).bind fun r => match r with
          | (.rt d, s) => some (d, s)
          | (.nx _, s) => some (.non, s)
          | _ => none
      else none
    | none => none
end Iv
set_option Elab.async false
set_option linter.all false
set_option maxRecDepth 100000
set_option maxHeartbeats 4000000
namespace Iv
open PySem PySem.Spec PyProof.Rows L2
/-! ### tuple * int, where the tuple is the same object or empty -/
theorem mul_same (l : Addr) (its : Array Value) (n : Nat) (dd : Option Addr) (sl : Array (Option Value)) (x : Int) (u : Tok) (c0 : (decide (x < -(2 ^ 63)) || decide (x ≥ 2 ^ 63)) = false) (c1 : (its.isEmpty || x == 1) = true) :
    Meets (Builtin.«tuple.__mul__» ⟨[.ref l, .int x u], []⟩) (fun _ R s => s.heap.get? l = some { cls := .type "tuple", dict := dd, data := .seq its n, slots := sl } ∧ R (.ok (.ret (Value.ref l))) s) :=
  .of_wp fun prog w A R s h => by
    obtain ⟨hp, g, d, tk, os⟩ := s
    obtain ⟨hl, h⟩ := h
    have f1 := AutoSeq1.idx_int
    wp_walk using wpAny_loadPart' hl
    repeat (first
      | (refine wpAny_ite_false (decide_eq_false (by rw [c0]; exact Bool.false_ne_true)) ?_; wp_walk using wpAny_loadPart' hl)
      | (refine wpAny_ite_true (decide_eq_true (by rw [c1])) ?_; wp_walk using wpAny_loadPart' hl))
    exact ⟨_, rfl, h⟩
theorem mul_none (l : Addr) (its : Array Value) (n : Nat) (dd : Option Addr) (sl : Array (Option Value)) (x : Int) (u : Tok) (c0 : (decide (x < -(2 ^ 63)) || decide (x ≥ 2 ^ 63)) = false) (c1 : (its.isEmpty || x == 1) = false) (c2 : (decide (x ≤ 0) || its.isEmpty) = true) :
    Meets (Builtin.«tuple.__mul__» ⟨[.ref l, .int x u], []⟩) (fun _ R s => s.heap.get? l = some { cls := .type "tuple", dict := dd, data := .seq its n, slots := sl } ∧
      R (.ok (.ret (Value.ref s.heap.objs.size))) { s with heap := s.heap.push { cls := Value.type "tuple", data := Data.seq #[] }, toks := s.toks }) :=
  .of_wp fun prog w A R s h => by
    obtain ⟨hp, g, d, tk, os⟩ := s
    obtain ⟨hl, h⟩ := h
    have f1 := AutoSeq1.idx_int
    wp_walk using wpAny_loadPart' hl
    repeat (first
      | (refine wpAny_ite_false (decide_eq_false (by rw [c0]; exact Bool.false_ne_true)) ?_; wp_walk using wpAny_loadPart' hl)
      | (refine wpAny_ite_false (decide_eq_false (by rw [c1]; exact Bool.false_ne_true)) ?_; wp_walk using wpAny_loadPart' hl)
      | (refine wpAny_ite_true (decide_eq_true (by rw [c2])) ?_; wp_walk using wpAny_loadPart' hl))
    exact ⟨_, rfl, h⟩
variable {X : Cx}
def rMulT (K : PySem.W.Frag) : R2 := fun x y H Q => ∃ l k xs, x = .ref l ∧ y = .int k ∧ SqT K H l xs ∧ 0 ≤ k ∧ k ≤ 1000 ∧ xs.length ≤ 1000 ∧
  ((xs = [] ∨ k = 1) → Q (.ref l) H) ∧ ((xs ≠ [] ∧ k ≠ 1) → ∀ p, H p = none → Q (.ref p) (upd H p (.tup (List.replicate k.toNat xs).flatten)))
theorem op_mulT : OpR X (binaryOp .Mult) (rMulT X.K) := by
  intro pins s σ H x y v u Q I rx ry h
  obtain ⟨l, k, xs, rfl, rfl, hT, k0, k1, hz, qa, qb⟩ := h
  by_cases big : xs ≠ [] ∧ 2 ≤ k
  · exact op_repT pins s σ H _ _ v u Q I rx ry ⟨l, k, xs, rfl, rfl, hT, big.1, big.2, k1, hz, qb ⟨big.1, by omega⟩⟩
  have c0 : (decide (k < -(2 ^ 63)) || decide (k ≥ 2 ^ 63)) = false := by
    rw [decide_eq_false (show ¬ k < -(2 ^ 63) by omega), decide_eq_false (show ¬ k ≥ 2 ^ 63 by omega), Bool.or_self]
  cases rx
  obtain ⟨t, rfl⟩ := ry
  obtain ⟨its, r, ⟨⟨cls, dd, data, sl⟩, ho, hc, n, hd⟩, hs⟩ := I.tuple hT
  simp only at hc hd
  subst hc hd
  have emp : its.toArray.isEmpty = decide (xs = []) := by
    cases r with
    | nil => rfl
    | cons a b => simp
  by_cases one : xs = [] ∨ k = 1
  · have c1 : (its.toArray.isEmpty || k == 1) = true := by
      rw [emp]
      rcases one with z | z
      · simp [z]
      · simp [z]
    refine wpAny_binaryOp_repeat_ref (T := "tuple") (U := "int") (by decide) ⟨_, ho, rfl⟩ (fun s' => typeIs_int s' k t) noFill_tuple_mul F.fills_int_mul F.slot_int_rmul repeat_tuple F.slot_int_index.lookup
      (call_meets F.slot_int_rmul (typeIs_int s k t) F.entry_int_rmul (F.args_int_rmul_2 _ _) (int_rmul_tuple k t l its.toArray n dd sl)
        ⟨ho, rfl, ⟨_, ho, rfl⟩, call_meets F.slot_tuple_mul ⟨_, ho, rfl⟩ F.entry_tuple_mul (F.args_tuple_mul_2 _ _) (mul_same l its.toArray n dd sl k t c0 c1) ⟨ho, ?_⟩⟩)
    exact ⟨.ref l, H, I, rfl, qa one⟩
  · have hne : xs ≠ [] := fun z => one (.inl z)
    have h0 : k = 0 := by
      have : ¬ 2 ≤ k := fun z => big ⟨hne, z⟩
      have : k ≠ 1 := fun z => one (.inr z)
      omega
    subst h0
    have c1 : (its.toArray.isEmpty || (0 : Int) == 1) = false := by
      rw [emp, decide_eq_false hne]; rfl
    refine wpAny_binaryOp_repeat_ref (T := "tuple") (U := "int") (by decide) ⟨_, ho, rfl⟩ (fun s' => typeIs_int s' 0 t) noFill_tuple_mul F.fills_int_mul F.slot_int_rmul repeat_tuple F.slot_int_index.lookup
      (call_meets F.slot_int_rmul (typeIs_int s 0 t) F.entry_int_rmul (F.args_int_rmul_2 _ _) (int_rmul_tuple 0 t l its.toArray n dd sl)
        ⟨ho, rfl, ⟨_, ho, rfl⟩, call_meets F.slot_tuple_mul ⟨_, ho, rfl⟩ F.entry_tuple_mul (F.args_tuple_mul_2 _ _) (mul_none l its.toArray n dd sl 0 t c0 c1 rfl) ⟨ho, ?_⟩⟩)
    refine ⟨.ref s.heap.objs.size, _, I.laid (t' := s.toks) (o := .tup []) (fun b ob q => Heap.get?_push_of_some _ q) (Nat.le_refl _) ?_, rfl, qb ⟨hne, by decide⟩ _ (I.hok.fresh (Nat.le_refl _))⟩
    exact ⟨Nat.zero_le _, [], .nil, IsTup.new _ _⟩
/-! ### sum of a tuple -/
theorem sum_tup {prog : Program} {w : World} {A : Around} {E : Value → Shared → Prop} {s : Shared} {l : Addr} {its : List Value} {ns : List Int} {Q : Value → Shared → Prop} (hh : A.handled = none) (hl : s.heap.IsTuple l its.toArray) (hi : IntsAre its ns)
    (h : ∀ h' tk t', (∀ b o, s.heap.get? b = some o → h'.get? b = some o) → Q (.int ns.sum t') { s with heap := h', toks := tk }) : wpAny (model prog w) A (call (.builtin "sum") [.ref l]) Q E s := by
  obtain ⟨xs, e⟩ := hi.allInts.items
  have hn : numsOf (intItems xs).toList = ns := by rw [← e]; exact hi.numsOf
  rw [nums_intItems] at hn
  rw [e] at hl
  have hlt : l < s.heap.objs.size := by obtain ⟨_, q, _⟩ := hl; exact Heap.lt_size q
  refine call_sum_walkG (wpAny_pyIter_tuple hl ?_)
  refine ⟨_, _, _, _, _, _, numAt xs, rfl, Walks.tuple (A := A.in1) hh _ l (Nat.ne_of_lt hlt) (intItems xs), ⟨⟨_, Heap.get?_push_size _ rfl, rfl, rfl⟩, hl.push _⟩, fun b hb => ?_, (fun _ _ => intItems_at), fun h' tk t' hk => ?_⟩
  · rw [Heap.size_push]
    rcases List.mem_cons.mp hb with rfl | hb
    · exact Nat.lt_succ_self _
    · have : b = l := by simpa using hb
      subst this
      exact Nat.lt_succ_of_lt hlt
  · have := h h' tk t' fun b o q => hk b o (fun z => Nat.lt_irrefl b (Nat.lt_of_lt_of_le (Heap.lt_size q) (Nat.le_of_eq (by simpa using (List.mem_singleton.mp z).symm)))) (Heap.get?_push_of_some _ q)
    rw [← hn] at this
    simpa [intItems, preSum_eq, List.take_of_length_le] using this
theorem sum_rule {X : Cx} (hc : X.calm = true) : CallR X (.builtin "sum") (fun vs H Q => ∃ (a : Addr) (ns : List Int), vs = [V.ref a] ∧ SqT X.K H a (ns.map V.int) ∧ Q (.int ns.sum) H) := by
  intro pins s σ H vs us Q I r h
  obtain ⟨a, ns, rfl, hs, q⟩ := h
  obtain ⟨its, rv, hl, _⟩ := I.tuple hs
  rw [Vals.ref1 r]
  exact sum_tup (I.ok.hd hc) (show s.heap.IsTuple a its.toArray from hl) rv.ints fun h' tk t' hk => ⟨.int _, H, I.kept hk, ⟨_, rfl⟩, q⟩

/-! ### data read off the heap -/
section
variable {X : Cx} {pins : List (Addr × Obj)} {σ : L2.St} {H : Hp} {s : Shared} {ρ : List Addr} {st : Sto}
theorem rol_seq {K : PySem.W.Frag} {H : Hp} {a : Addr} {vs : List V} (h : (∃ o, H a = some (.frz o (.lst vs))) ∨ ∀ H', SqL K H' a vs) : SqL K H a vs := h.elim (fun h => .inl (.inr h)) fun h => h H
mutual
theorem reads_C (I : Inv X pins σ H s) {g : Nat → Option PyData} (hg : ∀ n p v u, g n = some p → RD X.K ρ H v (.loc n) → RelV v u → ∃ as, Reads s.heap u p as) :
    ∀ (d : D) (p : PyData) (v : V) (u : Value), pyC g d = some p → RD X.K ρ H v d → RelV v u → ∃ as, Reads s.heap u p as
  | .non, _, _, _, e, h, r => by
    cases h; cases e; cases r; exact ⟨_, .none⟩
  | .bl b, _, _, _, e, h, r => by
    cases h; cases e; cases r; exact ⟨_, .bool b⟩
  | .int i, _, _, _, e, h, r => by
    cases h; cases e; obtain ⟨t, rfl⟩ := r; exact ⟨_, .int i t⟩
  | .str x, _, _, _, e, h, r => by
    cases h; cases e; obtain ⟨t, rfl⟩ := r; exact ⟨_, .str x t⟩
  | .tup ds, _, _, _, e, h, r => by
    cases h with
    | tup hs ha =>
      cases r
      obtain ⟨ps, e1, rfl⟩ := Option.map_eq_some_iff.mp (show (pyCs g ds).map PyData.tuple = some _ from e)
      obtain ⟨its, rv, ⟨o, ho, hc, n, hd⟩, _⟩ := I.tuple hs
      obtain ⟨as, hr⟩ := reads_Cs I hg ds ps _ its e1 ha rv
      exact ⟨_, .tuple ho hc hd hr⟩
  | .rol ds, _, _, _, e, h, r => by
    cases h with
    | rol hs ha =>
      cases r
      obtain ⟨ps, e1, rfl⟩ := Option.map_eq_some_iff.mp (show (pyCs g ds).map PyData.list = some _ from e)
      obtain ⟨its, rv, ⟨o, n, ho, hc, _, hd⟩, _⟩ := I.list (rol_seq hs)
      obtain ⟨as, hr⟩ := reads_Cs I hg ds ps _ its e1 ha rv
      exact ⟨_, .list ho hc hd hr⟩
  | .loc n, _, _, _, e, h, r => hg n _ _ _ e h r
theorem reads_Cs (I : Inv X pins σ H s) {g : Nat → Option PyData} (hg : ∀ n p v u, g n = some p → RD X.K ρ H v (.loc n) → RelV v u → ∃ as, Reads s.heap u p as) :
    ∀ (ds : List D) (ps : List PyData) (vs : List V) (us : List Value), pyCs g ds = some ps → RDs X.K ρ H vs ds → Vals vs us → ∃ as, ReadsAll s.heap us ps as
  | [], _, _, _, e, h, r => by
    cases h; cases e; cases r; exact ⟨_, .nil⟩
  | d :: ds, _, _, _, e, h, r => by
    cases h with
    | cons h1 h2 =>
      cases r with
      | cons r1 r2 =>
        obtain ⟨p, e1, e2⟩ := Option.bind_eq_some_iff.mp (show ((pyC g d).bind fun p => (pyCs g ds).map (p :: ·)) = some _ from e)
        obtain ⟨ps, e3, rfl⟩ := Option.map_eq_some_iff.mp e2
        obtain ⟨as, q1⟩ := reads_C I hg d p _ _ e1 h1 r1
        obtain ⟨bs, q2⟩ := reads_Cs I hg ds ps _ _ e3 h2 r2
        exact ⟨_, .cons q1 q2⟩
end
theorem reads_L (I : Inv X pins σ H s) (hs : RS X.K ρ H st) : ∀ (f : Nat) (d : D) (p : PyData) (v : V) (u : Value), pyL f st d = some p → RD X.K ρ H v d → RelV v u → ∃ as, Reads s.heap u p as
  | 0, d, p, v, u, e, h, r => reads_C I (g := fun _ => none) (fun _ _ _ _ z => by cases z) d p v u e h r
  | f + 1, d, p, v, u, e, h, r => by
    refine reads_C I (fun n q w x z hw rx => ?_) d p v u e h r
    cases hc : st[n]? with
    | none => rw [hc] at z; cases z
    | some c =>
      rw [hc] at z
      cases c with
      | lst xs =>
        cases hw with
        | loc ha =>
          cases rx
          obtain ⟨ps, e1, rfl⟩ := Option.map_eq_some_iff.mp (show (pyCs (fun m => pyL f st (.loc m)) xs).map PyData.list = some _ from z)
          obtain ⟨vs, hv, hx⟩ := hs.lst hc ha
          obtain ⟨its, rv, ⟨o, n', ho, hcl, _, hd⟩, _⟩ := I.list (SqL.of (K := X.K) hv)
          obtain ⟨as, hr⟩ := reads_Cs I (g := fun m => pyL f st (.loc m)) (fun m p' v' u' e' h' r' => reads_L I hs f (.loc m) p' v' u' e' h' r') xs ps _ its e1 hx rv
          exact ⟨_, .list ho hcl hd hr⟩
      | dK _ => cases z
      | dT _ => cases z
theorem flat_reads {h : Heap} : ∀ {d : D} {p : PyData} {v : V} {u : Value} {K : PySem.W.Frag} {ρ : List Addr} {H : Hp}, flatPy d = some p → RD K ρ H v d → RelV v u → Reads h u p []
  | .non, _, _, _, _, _, _, e, h, r => by cases h; cases e; cases r; exact .none
  | .bl b, _, _, _, _, _, _, e, h, r => by cases h; cases e; cases r; exact .bool b
  | .int i, _, _, _, _, _, _, e, h, r => by cases h; cases e; obtain ⟨t, rfl⟩ := r; exact .int i t
  | .str x, _, _, _, _, _, _, e, h, r => by cases h; cases e; obtain ⟨t, rfl⟩ := r; exact .str x t
  | .tup _, _, _, _, _, _, _, e, _, _ => by cases e
  | .rol _, _, _, _, _, _, _, e, _, _ => by cases e
  | .loc _, _, _, _, _, _, _, e, _, _ => by cases e
theorem key_reads {h : Heap} : ∀ {k : Key} {u : Value}, keyIs k u = true → Reads h u (keyPy k) []
  | .inl i, u, e => by
    obtain ⟨t, rfl⟩ := Value.isInt_shape (k := i) (v := u) e
    exact .int i t
  | .inr x, u, e => by
    obtain ⟨t, rfl⟩ := Value.isStrOf_shape (x := x) (v := u) e
    exact .str x t
theorem kv_reads {P : Program} {w : World} {h : Heap} {K : PySem.W.Frag} {ρ : List Addr} {H : Hp} : ∀ {kvs : List (Key × D)} {ws : List (Key × V)} {vs : List (Key × Value)} {es : List DictEntry} {ps : List (PyData × PyData)}, kvPy kvs = some ps → RKV K ρ H ws kvs → KV ws vs → PySem.Pairs (mixKind P w) es vs →
    ReadsAll h (es.map (·.key)) (ps.map (·.1)) [] ∧ ReadsAll h (es.map (·.val)) (ps.map (·.2)) []
  | [], _, _, _, _, e, h1, h2, h3 => by
    cases h1; cases h2; cases h3; cases e; exact ⟨.nil, .nil⟩
  | (k, d) :: kvs, _, _, _, _, e, h1, h2, h3 => by
    cases h1 with
    | cons a1 b1 =>
      cases h2 with
      | cons a2 b2 =>
        cases h3 with
        | cons k3 v3 b3 =>
          obtain ⟨p, e1, e2⟩ := Option.bind_eq_some_iff.mp (show ((flatPy d).bind fun p => (kvPy kvs).map ((keyPy k, p) :: ·)) = some _ from e)
          obtain ⟨ps, e3, rfl⟩ := Option.map_eq_some_iff.mp e2
          obtain ⟨r1, r2⟩ := kv_reads e3 b1 b2 b3
          have kk : k = _ := a1.1.symm.trans a2.1
          have c1 := key_reads (h := h) (k := k) (kk ▸ k3)
          have c2 := flat_reads (h := h) e1 a1.2 (by have := a2.2; rw [← v3] at this; exact this)
          exact ⟨.cons (as := []) (bs := []) c1 r1, .cons (as := []) (bs := []) c2 r2⟩
mutual
theorem noDict_C {g : Nat → Option PyData} (hg : ∀ n p, g n = some p → p.hasDict = false) : ∀ (d : D) (p : PyData), pyC g d = some p → p.hasDict = false
  | .non, _, e => by cases e; rfl
  | .bl _, _, e => by cases e; rfl
  | .int _, _, e => by cases e; rfl
  | .str _, _, e => by cases e; rfl
  | .tup ds, _, e => by
    obtain ⟨ps, e1, rfl⟩ := Option.map_eq_some_iff.mp (show (pyCs g ds).map PyData.tuple = some _ from e)
    exact noDict_Cs hg ds ps e1
  | .rol ds, _, e => by
    obtain ⟨ps, e1, rfl⟩ := Option.map_eq_some_iff.mp (show (pyCs g ds).map PyData.list = some _ from e)
    exact noDict_Cs hg ds ps e1
  | .loc n, _, e => hg n _ e
theorem noDict_Cs {g : Nat → Option PyData} (hg : ∀ n p, g n = some p → p.hasDict = false) : ∀ (ds : List D) (ps : List PyData), pyCs g ds = some ps → PyData.hasDictAll ps = false
  | [], _, e => by cases e; rfl
  | d :: ds, _, e => by
    obtain ⟨p, e1, e2⟩ := Option.bind_eq_some_iff.mp (show ((pyC g d).bind fun p => (pyCs g ds).map (p :: ·)) = some _ from e)
    obtain ⟨ps, e3, rfl⟩ := Option.map_eq_some_iff.mp e2
    show (p.hasDict || PyData.hasDictAll ps) = false
    rw [noDict_C hg d p e1, noDict_Cs hg ds ps e3]; rfl
end
theorem noDict_L : ∀ (f : Nat) (st : Sto) (d : D) (p : PyData), pyL f st d = some p → p.hasDict = false
  | 0, st, d, p, e => noDict_C (g := fun _ => none) (fun _ _ z => by cases z) d p e
  | f + 1, st, d, p, e => by
    refine noDict_C (fun n q z => ?_) d p e
    cases hc : st[n]? with
    | none => rw [hc] at z; cases z
    | some c =>
      rw [hc] at z
      cases c with
      | lst xs =>
        obtain ⟨ps, e1, rfl⟩ := Option.map_eq_some_iff.mp (show (pyCs (fun m => pyL f st (.loc m)) xs).map PyData.list = some _ from z)
        exact noDict_Cs (fun m p' e' => noDict_L f st (.loc m) p' e') xs ps e1
      | dK _ => cases z
      | dT _ => cases z
end
end Iv
set_option Elab.async false
set_option linter.all false
set_option maxRecDepth 100000
set_option maxHeartbeats 4000000
namespace Iv
open PySem PySem.Spec PyProof.Rows L2
variable {X : Cx}
/-- a two-place operation on data -/
def R2D (X : Cx) (f : D → D → Sto → Option (D × Sto)) : R2 := fun x y H Q => ∃ ρ st d1 d2 r, RS X.K ρ H st ∧ RD X.K ρ H x d1 ∧ RD X.K ρ H y d2 ∧ f d1 d2 st = some r ∧ Fin X.K ρ H r.1 r.2 Q
theorem items_len {K : PySem.W.Frag} {ρ : List Addr} {H : Hp} {vs : List V} {ds : List D} (h : RDs K ρ H vs ds) : vs = [] ↔ ds = [] := by
  cases h <;> simp
theorem opB_ok (op : Operator) : OpR X (binaryOp op) (R2D X (opB op)) := by
  intro pins s σ H x y v u Q I rx ry h
  obtain ⟨ρ, st, d1, d2, r, hs, h1, h2, e, f⟩ := h
  unfold opB at e
  split at e
  · cases h1; cases h2; cases e
    exact op_add pins s σ H _ _ v u Q I rx ry ⟨_, _, rfl, rfl, f.here hs (.int _)⟩
  · cases h1; cases h2
    split at e
    · cases e
      exact op_add_str pins s σ H _ _ v u Q I rx ry ⟨_, _, rfl, rfl, by assumption, f.here hs (.str _)⟩
    · cases e
  · split at e
    · rename_i hz
      cases e
      cases h1 with
      | tup a1 b1 =>
        cases h2 with
        | tup a2 b2 =>
          refine op_catA pins s σ H _ _ v u Q I rx ry ⟨_, _, _, _, rfl, rfl, a1, a2, by rw [b1.length, b2.length]; exact hz, fun z => ?_, fun z1 z2 => ?_, fun z1 z2 p hp => ?_⟩
          · have q := (items_len b1).mp z
            subst q
            exact f.here hs (.tup a2 b2)
          · have q := (items_len b2).mp z2
            subst q
            rw [List.append_nil] at f
            exact f.here hs (.tup a1 b1)
          · exact f.tup hs (b1.append b2) hp
    · cases e
  · split at e
    · rename_i m n a b ea eb
      split at e
      · rename_i hz
        cases e
        cases h1 with
        | loc l1 =>
          cases h2 with
          | loc l2 =>
            obtain ⟨vs, hv, qv⟩ := hs.lst ea l1
            obtain ⟨us, hu, qu⟩ := hs.lst eb l2
            exact op_cat pins s σ H _ _ v u Q I rx ry ⟨_, _, _, _, rfl, rfl, hv, hu, by rw [qv.length, qu.length]; exact hz, fun p hp => f.lst hs (qv.append qu) hp⟩
      · cases e
    · cases e
  · cases h1; cases h2; cases e
    exact op_sub pins s σ H _ _ v u Q I rx ry ⟨_, _, rfl, rfl, f.here hs (.int _)⟩
  · cases h1; cases h2
    split at e
    · cases e
      exact op_mulW pins s σ H _ _ v u Q I rx ry ⟨_, _, rfl, rfl, by assumption, f.here hs (.int _)⟩
    · cases e
  · split at e
    · rename_i hz
      cases e
      cases h2
      cases h1 with
      | tup a1 b1 =>
        refine op_mulT pins s σ H _ _ v u Q I rx ry ⟨_, _, _, rfl, rfl, a1, hz.1, hz.2.1, by rw [b1.length]; exact hz.2.2, fun z => ?_, fun _ p hp => f.tup hs (b1.rep _) hp⟩
        rcases z with z | z
        · have q := (items_len b1).mp z
          subst q
          have none_ : ∀ n : Nat, (List.replicate n ([] : List D)).flatten = [] := fun n => by simp
          rw [none_] at f
          exact f.here hs (.tup a1 b1)
        · subst z
          have one : ∀ zs : List D, (List.replicate (Int.toNat 1) zs).flatten = zs := fun zs => by
            show (List.replicate 1 zs).flatten = _
            rw [List.replicate_succ, List.replicate_zero, List.flatten_cons, List.flatten_nil, List.append_nil]
          rw [one] at f
          exact f.here hs (.tup a1 b1)
    · cases e
  · split at e
    · rename_i ea
      split at e
      · rename_i hz
        cases e
        cases h2
        cases h1 with
        | loc l1 =>
          obtain ⟨vs, hv, qv⟩ := hs.lst ea l1
          refine op_rep pins s σ H _ _ v u Q I rx ry ⟨_, _, _, rfl, rfl, hv, by omega, by omega, ?_, fun p hp => f.lst hs (qv.rep _) hp⟩
          rw [qv.length, sizeLine_eq]
          refine Nat.le_trans (Nat.mul_le_mul hz.2.2 (show Int.toNat _ ≤ 1000 by omega)) (by decide)
      · cases e
    · cases e
  · cases h1; cases h2
    split at e
    · cases e
      exact op_fdivW pins s σ H _ _ v u Q I rx ry ⟨_, _, rfl, rfl, by assumption, f.here hs (.int _)⟩
    · cases e
  · cases h1; cases h2
    split at e
    · cases e
      exact op_mod pins s σ H _ _ v u Q I rx ry ⟨_, _, rfl, rfl, by assumption, f.here hs (.int _)⟩
    · cases e
  · cases h1; cases h2
    split at e
    · cases e
      exact op_pow pins s σ H _ _ v u Q I rx ry ⟨_, _, rfl, rfl, by assumption, f.here hs (.int _)⟩
    · cases e
  · cases e

/-! ### comparisons -/
def RCD (X : Cx) (f : D → D → Sto → Option Bool) : R2 := fun x y H Q => ∃ ρ st d1 d2 b, RS X.K ρ H st ∧ RD X.K ρ H x d1 ∧ RD X.K ρ H y d2 ∧ f d1 d2 st = some b ∧ Q (.bl b) H
theorem dec_V {α : Type} [DecidableEq α] {f : α → V} (hf : ∀ a b, f a = f b → a = b) (a b : α) : decide (f a = f b) = decide (a = b) := by
  by_cases h : a = b
  · subst h; simp
  · rw [decide_eq_false h, decide_eq_false fun z => h (hf _ _ z)]
theorem eqD_ok (hu : X.A.units + 64 < cLine) : OpR X (compareOp .Eq) (RCD X fun x y st => eqD st x y) := by
  intro pins s σ H x y v u Q I rx ry h
  obtain ⟨ρ, st, d1, d2, b, hs, h1, h2, e, q⟩ := h
  simp only [eqD] at e
  split at e
  · cases h1; cases h2; cases e
    exact op_eq pins s σ H _ _ v u Q I rx ry ⟨rfl, by rw [dec_V (fun _ _ => V.int.inj)]; exact q⟩
  · cases h1; cases h2; cases e
    exact op_eq pins s σ H _ _ v u Q I rx ry ⟨rfl, by rw [dec_V (fun _ _ => V.bl.inj)]; exact q⟩
  · cases h1; cases h2; cases e
    exact op_eq pins s σ H _ _ v u Q I rx ry ⟨rfl, by rw [dec_V (fun _ _ => V.str.inj)]; exact q⟩
  · obtain ⟨p1, e1, e⟩ := Option.bind_eq_some_iff.mp e
    obtain ⟨p2, e2, e⟩ := Option.bind_eq_some_iff.mp e
    split at e
    · rename_i hz
      cases e
      obtain ⟨as, r1⟩ := reads_L I hs 64 _ _ _ _ e1 h1 rx
      obtain ⟨bs, r2⟩ := reads_L I hs 64 _ _ _ _ e2 h2 ry
      exact SeqAt.compareEq_shaped r1 r2 hz.1 hz.2 hu ⟨.bl _, H, I, rfl, q⟩
    · cases e
theorem neD_ok (hu : X.A.units + 64 < cLine) : OpR X (compareOp .NotEq) (RCD X fun x y st => (eqD st x y).map (!·)) := by
  intro pins s σ H x y v u Q I rx ry h
  obtain ⟨ρ, st, d1, d2, b, hs, h1, h2, e, q⟩ := h
  obtain ⟨k, e', rfl⟩ := Option.map_eq_some_iff.mp e
  clear e
  have e := e'
  clear e'
  simp only [eqD] at e
  split at e
  · cases h1; cases h2; cases e
    exact op_ne pins s σ H _ _ v u Q I rx ry ⟨rfl, by rw [dec_V (fun _ _ => V.int.inj)]; exact q⟩
  · cases h1; cases h2; cases e
    exact op_ne pins s σ H _ _ v u Q I rx ry ⟨rfl, by rw [dec_V (fun _ _ => V.bl.inj)]; exact q⟩
  · cases h1; cases h2; cases e
    exact op_ne pins s σ H _ _ v u Q I rx ry ⟨rfl, by rw [dec_V (fun _ _ => V.str.inj)]; exact q⟩
  · obtain ⟨p1, e1, e⟩ := Option.bind_eq_some_iff.mp e
    obtain ⟨p2, e2, e⟩ := Option.bind_eq_some_iff.mp e
    split at e
    · rename_i hz
      cases e
      obtain ⟨as, r1⟩ := reads_L I hs 64 _ _ _ _ e1 h1 rx
      obtain ⟨bs, r2⟩ := reads_L I hs 64 _ _ _ _ e2 h2 ry
      exact SeqAt.compareNe_shaped r1 r2 hz.1 hz.2 hu ⟨.bl _, H, I, rfl, q⟩
    · cases e
theorem flat_rel {K : PySem.W.Frag} {ρ : List Addr} {H : Hp} : ∀ {d : D} {v w : V}, flatD d = some w → RD K ρ H v d → v = w ∧ flatV v = true
  | .non, _, _, e, h => by cases h; cases e; exact ⟨rfl, rfl⟩
  | .bl b, _, _, e, h => by cases h; cases e; exact ⟨rfl, rfl⟩
  | .int i, _, _, e, h => by cases h; cases e; exact ⟨rfl, rfl⟩
  | .str x, _, _, e, h => by cases h; cases e; exact ⟨rfl, rfl⟩
  | .tup _, _, _, e, _ => by cases e
  | .rol _, _, _, e, _ => by cases e
  | .loc _, _, _, e, _ => by cases e
theorem flats_rel {K : PySem.W.Frag} {ρ : List Addr} {H : Hp} : ∀ {ds : List D} {vs ws : List V}, flatDs ds = some ws → RDs K ρ H vs ds → vs = ws ∧ vs.all flatV = true
  | [], _, _, e, h => by cases h; cases e; exact ⟨rfl, rfl⟩
  | d :: ds, _, _, e, h => by
    cases h with
    | cons h1 h2 =>
      obtain ⟨w, e1, e2⟩ := Option.bind_eq_some_iff.mp (show ((flatD d).bind fun v => (flatDs ds).map (v :: ·)) = some _ from e)
      obtain ⟨ws, e3, rfl⟩ := Option.map_eq_some_iff.mp e2
      obtain ⟨a1, b1⟩ := flat_rel e1 h1
      obtain ⟨a2, b2⟩ := flats_rel e3 h2
      exact ⟨by rw [a1, a2], by rw [List.all_cons, b1, b2]; rfl⟩
/-- the items of a list or tuple, as they stand -/
theorem items_at {K : PySem.W.Frag} {ρ : List Addr} {H : Hp} {st : Sto} (hs : RS K ρ H st) {d : D} {v : V} {ds : List D} (e : itemsOf st d = some ds) (h : RD K ρ H v d) : ∃ p vs, v = .ref p ∧ (SqL K H p vs ∨ SqT K H p vs) ∧ RDs K ρ H vs ds := by
  unfold itemsOf at e
  split at e
  · cases e
    cases h with
    | tup a b => exact ⟨_, _, rfl, .inr a, b⟩
  · cases e
    cases h with
    | rol a b => exact ⟨_, _, rfl, .inl (rol_seq a), b⟩
  · split at e
    · rename_i ea
      cases e
      cases h with
      | loc l =>
        obtain ⟨vs, hv, qv⟩ := hs.lst ea l
        exact ⟨_, _, rfl, .inl (SqL.of hv), qv⟩
    · cases e
  · cases e
theorem inD_ok : OpR X (compareOp .In) (RCD X fun x y st => inD st x y) := by
  intro pins s σ H x y v u Q I rx ry h
  obtain ⟨ρ, st, d1, d2, b, hs, h1, h2, e, q⟩ := h
  simp only [inD] at e
  split at e
  · cases h1; cases h2; cases e
    exact op_in_str pins s σ H _ _ v u Q I rx ry ⟨_, _, rfl, rfl, q⟩
  · obtain ⟨ys, e1, e⟩ := Option.bind_eq_some_iff.mp e
    obtain ⟨w, e2, e⟩ := Option.bind_eq_some_iff.mp e
    obtain ⟨ws, e3, rfl⟩ := Option.map_eq_some_iff.mp e
    obtain ⟨p, vs, rfl, hq, hv⟩ := items_at hs e1 h2
    obtain ⟨rfl, fx⟩ := flat_rel e2 h1
    obtain ⟨rfl, fs⟩ := flats_rel e3 hv
    exact op_in_seq pins s σ H _ _ v u Q I rx ry ⟨p, vs, rfl, hq, fx, fs, q⟩
theorem ninD_ok : OpR X (compareOp .NotIn) (RCD X fun x y st => (inD st x y).map (!·)) := by
  intro pins s σ H x y v u Q I rx ry h
  obtain ⟨ρ, st, d1, d2, b, hs, h1, h2, e, q⟩ := h
  obtain ⟨k, e', rfl⟩ := Option.map_eq_some_iff.mp e
  clear e
  have e := e'
  clear e'
  simp only [inD] at e
  split at e
  · cases h1; cases h2; cases e
    exact op_notIn_str pins s σ H _ _ v u Q I rx ry ⟨_, _, rfl, rfl, q⟩
  · obtain ⟨ys, e1, e⟩ := Option.bind_eq_some_iff.mp e
    obtain ⟨w, e2, e⟩ := Option.bind_eq_some_iff.mp e
    obtain ⟨ws, e3, rfl⟩ := Option.map_eq_some_iff.mp e
    obtain ⟨p, vs, rfl, hq, hv⟩ := items_at hs e1 h2
    obtain ⟨rfl, fx⟩ := flat_rel e2 h1
    obtain ⟨rfl, fs⟩ := flats_rel e3 hv
    exact op_notIn_seq pins s σ H _ _ v u Q I rx ry ⟨p, vs, rfl, hq, fx, fs, q⟩
theorem opC_ok (hu : X.A.units + 64 < cLine) (op : CmpOp) : OpR X (compareOp op) (RCD X (opC op)) := by
  intro pins s σ H x y v u Q I rx ry h
  obtain ⟨ρ, st, d1, d2, b, hs, h1, h2, e, q⟩ := h
  unfold opC at e
  split at e
  · exact eqD_ok hu pins s σ H x y v u Q I rx ry ⟨ρ, st, d1, d2, b, hs, h1, h2, e, q⟩
  · exact neD_ok hu pins s σ H x y v u Q I rx ry ⟨ρ, st, d1, d2, b, hs, h1, h2, e, q⟩
  · cases h1; cases h2; cases e; exact op_lt pins s σ H _ _ v u Q I rx ry ⟨_, _, rfl, rfl, q⟩
  · cases h1; cases h2; cases e; exact op_le pins s σ H _ _ v u Q I rx ry ⟨_, _, rfl, rfl, q⟩
  · cases h1; cases h2; cases e; exact op_gt pins s σ H _ _ v u Q I rx ry ⟨_, _, rfl, rfl, q⟩
  · cases h1; cases h2; cases e; exact op_ge pins s σ H _ _ v u Q I rx ry ⟨_, _, rfl, rfl, q⟩
  iterate 6 (cases h2; cases e; cases h1; exact op_isN pins s σ H _ _ v u Q I rx ry ⟨rfl, q⟩)
  iterate 6 (cases h2; cases e; cases h1; exact op_notN pins s σ H _ _ v u Q I rx ry ⟨rfl, q⟩)
  · exact inD_ok pins s σ H x y v u Q I rx ry ⟨ρ, st, d1, d2, b, hs, h1, h2, e, q⟩
  · exact ninD_ok pins s σ H x y v u Q I rx ry ⟨ρ, st, d1, d2, b, hs, h1, h2, e, q⟩
  · cases e

/-! ### slices, items -/
theorem RDs.cut {K : PySem.W.Frag} {ρ : List Addr} {H : Hp} {vs : List V} {ds : List D} (h : RDs K ρ H vs ds) (lo hi : Option Int) : RDs K ρ H (cutV vs lo hi) (cutD ds lo hi) := by
  unfold cutV cutD
  rw [h.length]
  exact (h.drop _).take _
theorem opSl_ok : SlR X (fun x lo hi H Q => ∃ ρ st d r, RS X.K ρ H st ∧ RD X.K ρ H x d ∧ opSl d lo hi st = some r ∧ Fin X.K ρ H r.1 r.2 Q) := by
  intro pins s σ H x v vl vu lo hi sl Q I rx hsl pl pu h
  obtain ⟨ρ, st, d, r, hs, h1, e, f⟩ := h
  unfold opSl at e
  split at e
  · cases e
    cases h1 with
    | tup a b =>
      refine sl_tupA pins s σ H _ v vl vu lo hi sl Q I rx hsl pl pu ⟨_, _, rfl, a, fun z => ?_, fun z p hp => f.tup hs (b.cut lo hi) hp⟩
      have q : ∀ zs : List D, zs.length = List.length _ → cutD zs lo hi = zs := fun zs hz => by
        unfold cutD
        rw [hz, z.1, z.2, List.drop_zero, Nat.sub_zero, ← hz]
        exact List.take_length
      rw [q _ b.length.symm] at f
      exact f.here hs (.tup a b)
  · cases e
    cases h1 with
    | rol a b => exact sl_list pins s σ H _ v vl vu lo hi sl Q I rx hsl pl pu ⟨_, _, rfl, rol_seq a, fun p hp => f.lst hs (b.cut lo hi) hp⟩
  · split at e
    · cases e
      cases h1
      exact sl_str pins s σ H _ v vl vu lo hi sl Q I rx hsl pl pu ⟨_, rfl, by assumption, f.here hs (.str _)⟩
    · cases e
  · split at e
    · rename_i ea
      cases e
      cases h1 with
      | loc l =>
        obtain ⟨vs, hv, qv⟩ := hs.lst ea l
        exact sl_list pins s σ H _ v vl vu lo hi sl Q I rx hsl pl pu ⟨_, _, rfl, SqL.of hv, fun p hp => f.lst hs (qv.cut lo hi) hp⟩
    · cases e
  · cases e
theorem atI_rel {K : PySem.W.Frag} {ρ : List Addr} {H : Hp} {vs : List V} {ds : List D} (h : RDs K ρ H vs ds) {i : Int} {d : D} (e : atI ds i = some d) : ∃ v, atI vs i = some v ∧ RD K ρ H v d := by
  unfold atI at e ⊢
  rw [h.length]
  obtain ⟨j, e1, e2⟩ := Option.bind_eq_some_iff.mp e
  obtain ⟨v, q1, q2⟩ := h.get e2
  exact ⟨v, by rw [e1]; exact q1, q2⟩
def RID (X : Cx) : R2 := fun x y H Q => ∃ ρ st d1 d2 d, RS X.K ρ H st ∧ RD X.K ρ H x d1 ∧ RD X.K ρ H y d2 ∧ opIx d1 d2 st = some d ∧ ∀ v, RD X.K ρ H v d → Q v H
theorem opIx_ok : IxR X (RID X) := by
  intro value slice pins s σ H x y v u Q I rx ry h hsub
  obtain ⟨ρ, st, d1, d2, d, hs, h1, h2, e, f⟩ := h
  unfold opIx at e
  split at e
  · cases h2
    cases h1 with
    | tup a b =>
      obtain ⟨w, q1, q2⟩ := atI_rel b e
      exact ix_tup value slice pins s σ H _ _ v u Q I rx ry ⟨_, _, _, w, rfl, rfl, a, q1, f w q2⟩ hsub
  · cases h2
    cases h1 with
    | rol a b =>
      obtain ⟨w, q1, q2⟩ := atI_rel b e
      exact ix_list value slice pins s σ H _ _ v u Q I rx ry ⟨_, _, _, w, rfl, rfl, rol_seq a, q1, f w q2⟩ hsub
  · cases h2
    split at e
    · rename_i ea
      cases h1 with
      | loc l =>
        obtain ⟨vs, hv, qv⟩ := hs.lst ea l
        obtain ⟨w, q1, q2⟩ := atI_rel qv e
        exact ix_list value slice pins s σ H _ _ v u Q I rx ry ⟨_, _, _, w, rfl, rfl, SqL.of hv, q1, f w q2⟩ hsub
    · cases e
  · cases h2
    split at e
    · rename_i hz
      obtain ⟨c, e1, rfl⟩ := Option.map_eq_some_iff.mp e
      cases h1
      exact ix_str value slice pins s σ H _ _ v u Q I rx ry ⟨_, _, c, rfl, rfl, hz, e1, f _ (.str _)⟩ hsub
    · cases e
  · cases e
end Iv
set_option Elab.async false
set_option linter.all false
set_option maxRecDepth 100000
set_option maxHeartbeats 4000000
namespace Iv
open PySem PySem.Spec PyProof.Rows L2
variable {X : Cx}
def RBi (X : Cx) (f : List D → Sto → Option (D × Sto)) : List V → Hp → VK → Prop := fun vs H Q => ∃ ρ st ds r, RS X.K ρ H st ∧ RDs X.K ρ H vs ds ∧ f ds st = some r ∧ Fin X.K ρ H r.1 r.2 Q
def biF : Bi → Value
  | .len => .builtin "len" | .abs => .builtin "abs" | .sum => .builtin "sum" | .tuple => .type "tuple" | .list => .type "list" | .int => .type "int" | .repr => .builtin "repr"
  | .max2 => .builtin "max" | .min2 => .builtin "min" | .dict => .type "dict" | .any => .builtin "any" | .all => .builtin "all" | .dict0 => .type "dict" | .str => .type "str"
theorem one_of {K : PySem.W.Frag} {ρ : List Addr} {H : Hp} {vs : List V} {d : D} (h : RDs K ρ H vs [d]) : ∃ v, vs = [v] ∧ RD K ρ H v d := by
  cases h with
  | cons a b => cases b; exact ⟨_, rfl, a⟩
theorem two_of {K : PySem.W.Frag} {ρ : List Addr} {H : Hp} {vs : List V} {d e : D} (h : RDs K ρ H vs [d, e]) : ∃ v w, vs = [v, w] ∧ RD K ρ H v d ∧ RD K ρ H w e := by
  cases h with
  | cons a b =>
    obtain ⟨w, rfl, q⟩ := one_of b
    exact ⟨_, w, rfl, a, q⟩
theorem intsOf_rel {K : PySem.W.Frag} {ρ : List Addr} {H : Hp} : ∀ {ds : List D} {ns : List Int} {vs : List V}, intsOf ds = some ns → RDs K ρ H vs ds → vs = ns.map V.int
  | [], _, _, e, h => by cases h; cases e; rfl
  | .int i :: ds, _, _, e, h => by
    cases h with
    | cons a b =>
      cases a
      obtain ⟨ns, e1, rfl⟩ := Option.map_eq_some_iff.mp (show (intsOf ds).map (i :: ·) = some _ from e)
      rw [intsOf_rel e1 b]; rfl
  | .non :: _, _, _, e, _ => by cases e
  | .bl _ :: _, _, _, e, _ => by cases e
  | .str _ :: _, _, _, e, _ => by cases e
  | .tup _ :: _, _, _, e, _ => by cases e
  | .rol _ :: _, _, _, e, _ => by cases e
  | .loc _ :: _, _, _, e, _ => by cases e
theorem len_ok : CallR X (.builtin "len") (RBi X (opBi .len)) := by
  intro pins s σ H xs us Q I rx h
  obtain ⟨ρ, st, ds, r, hs, h1, e, f⟩ := h
  unfold opBi at e
  split at e <;> first | (rename_i z _; cases z; done) | skip
  all_goals (try (rename_i z; cases z; done))
  · obtain ⟨w, rfl, hw⟩ := one_of h1
    cases e
    cases hw with
    | tup a b => exact call_len_seq pins s σ H _ us Q I rx ⟨_, _, rfl, .inr a, by rw [b.length]; exact f.here hs (.int _)⟩
  · obtain ⟨w, rfl, hw⟩ := one_of h1
    cases e
    cases hw with
    | rol a b => exact call_len_seq pins s σ H _ us Q I rx ⟨_, _, rfl, .inl (rol_seq a), by rw [b.length]; exact f.here hs (.int _)⟩
  · obtain ⟨w, rfl, hw⟩ := one_of h1
    split at e
    · cases e
      cases hw
      exact call_len_str pins s σ H _ us Q I rx ⟨_, rfl, by assumption, f.here hs (.int _)⟩
    · cases e
  · obtain ⟨w, rfl, hw⟩ := one_of h1
    split at e
    · rename_i ea
      cases e
      cases hw with
      | loc l =>
        obtain ⟨vs, hv, qv⟩ := hs.lst ea l
        exact call_len_seq pins s σ H _ us Q I rx ⟨_, _, rfl, .inl (SqL.of hv), by rw [qv.length]; exact f.here hs (.int _)⟩
    · rename_i ea
      cases e
      cases hw with
      | loc l =>
        obtain ⟨vs, hv, qv⟩ := hs.dK ea l
        have hl : vs.length = _ := qv.length
        exact call_lenD pins s σ H _ us Q I rx ⟨_, _, rfl, hv, by rw [hl]; exact f.here hs (.int _)⟩
    · cases e
  · cases e
theorem repr_ok (hg : X.A.guards = some []) (hu : X.A.units + 200 < cLine) : CallR X (.builtin "repr") (RBi X (opBi .repr)) := by
  intro pins s σ H xs us Q I rx h
  obtain ⟨ρ, st, ds, r, hs, h1, e, f⟩ := h
  have e0 : ∃ d z, ds = [d] ∧ reprD st d = some z ∧ r = (.str z, st) := by
    unfold opBi at e
    split at e <;> first | (rename_i z _; cases z; done) | skip
    all_goals (try (rename_i z; cases z; done))
    · obtain ⟨z, e1, rfl⟩ := Option.map_eq_some_iff.mp e
      exact ⟨_, z, rfl, e1, rfl⟩
    · cases e
  obtain ⟨d, z, rfl, e1, rfl⟩ := e0
  obtain ⟨w, rfl, hw⟩ := one_of h1
  obtain ⟨u, rfl, ru⟩ := vals1 rx
  obtain ⟨p, e2, e3⟩ := Option.bind_eq_some_iff.mp e1
  split at e3
  · rename_i hz
    cases e3
    have fin : ∀ (h' : Heap) (t : Tok) (tk : Nat), (∀ b o, s.heap.get? b = some o → h'.get? b = some o) → EP X pins σ Q (.str p.shown t) { s with heap := h', toks := tk } := fun h' t tk hk =>
      ⟨.str p.shown, H, I.kept hk, ⟨t, rfl⟩, f.here hs (.str _)⟩
    -- what is read
    have rd : ∃ as, Reads s.heap u p as ∧ (p.hasDict = true → sysModules ∉ as) := by
      have plain : ∀ {q : PyData}, pyL 64 st d = some q → q = p → ∃ as, Reads s.heap u p as ∧ (p.hasDict = true → sysModules ∉ as) := fun {q} e4 e5 => by
        subst e5
        obtain ⟨as, r1⟩ := reads_L I hs 64 _ _ _ _ e4 hw ru
        exact ⟨as, r1, PyData.noDict_hsm (noDict_L 64 st d _ e4)⟩
      unfold pyR at e2
      split at e2
      · split at e2
        · rename_i ea
          obtain ⟨ps, e4, rfl⟩ := Option.map_eq_some_iff.mp e2
          cases hw with
          | loc l =>
            obtain ⟨ws, hv, qv⟩ := hs.dK ea l
            cases ru
            obtain ⟨_, hsys, vs, kv, o, es, ep, ho, hex, hdt, _, hp, _⟩ := I.hok _ _ hv
            obtain ⟨r1, r2⟩ := kv_reads (h := s.heap) e4 qv kv hp
            refine ⟨_, .dict ho hex.1 hdt r1 r2, fun _ hm => ?_⟩
            rw [List.append_nil] at hm
            rw [← List.mem_singleton.mp hm] at hsys
            exact absurd hsys (by decide)
        · exact plain e2 rfl
      · exact plain e2 rfl
    obtain ⟨as, r1, hsm⟩ := rd
    have ref_ : ∀ a : Addr, u = .ref a → wpAny (model X.prog X.w) X.A (call (.builtin "repr") [u]) (EP X pins σ Q) X.xe s := fun a ea => by
      subst ea
      exact repr_of_reads' r1 hz.1 hsm hg (by omega) (fun _ _ q => q) (fun h' t tk hk => fin h' t tk hk) hz.2.1
    cases r1 with
    | none => exact P.repr_of_none (fin s.heap _ _ fun _ _ q => q)
    | bool b => cases b <;> exact P.repr_of_bool (fin s.heap _ _ fun _ _ q => q)
    | int i t => exact P.repr_of_int (by simpa [PyData.showable] using hz.1) (fin s.heap _ _ fun _ _ q => q)
    | str x t => exact P.repr_of_str (fin s.heap _ _ fun _ _ q => q) hz.2.1
    | list _ _ _ _ => exact ref_ _ rfl
    | tuple _ _ _ _ => exact ref_ _ rfl
    | dict _ _ _ _ _ => exact ref_ _ rfl
  · cases e3
theorem abs_ok : CallR X (.builtin "abs") (RBi X (opBi .abs)) := by
  intro pins s σ H xs us Q I rx h
  obtain ⟨ρ, st, ds, r, hs, h1, e, f⟩ := h
  unfold opBi at e
  split at e <;> first | (rename_i z _; cases z; done) | skip
  all_goals (try (rename_i z; cases z; done))
  · obtain ⟨w, rfl, hw⟩ := one_of h1
    cases e; cases hw
    exact call_abs pins s σ H _ us Q I rx ⟨_, rfl, f.here hs (.int _)⟩
  · cases e
theorem sum_ok (hc : X.calm = true) : CallR X (.builtin "sum") (RBi X (opBi .sum)) := by
  intro pins s σ H xs us Q I rx h
  obtain ⟨ρ, st, ds, r, hs, h1, e, f⟩ := h
  unfold opBi at e
  split at e <;> first | (rename_i z _; cases z; done) | skip
  all_goals (try (rename_i z; cases z; done))
  · obtain ⟨w, rfl, hw⟩ := one_of h1
    obtain ⟨ys, e1, e2⟩ := Option.bind_eq_some_iff.mp e
    obtain ⟨ns, e3, rfl⟩ := Option.map_eq_some_iff.mp e2
    obtain ⟨p, vs, rfl, hq, hv⟩ := items_at hs e1 hw
    have ev := intsOf_rel e3 hv
    subst ev
    rcases hq with hq | hq
    · exact cr_sum hc pins s σ H _ us Q I rx ⟨p, ns, rfl, hq, f.here hs (.int _)⟩
    · exact sum_rule hc pins s σ H _ us Q I rx ⟨p, ns, rfl, hq, f.here hs (.int _)⟩
  · cases e
theorem tuple_ok : CallR X (.type "tuple") (RBi X (opBi .tuple)) := by
  intro pins s σ H xs us Q I rx h
  obtain ⟨ρ, st, ds, r, hs, h1, e, f⟩ := h
  unfold opBi at e
  split at e <;> first | (rename_i z _; cases z; done) | skip
  all_goals (try (rename_i z; cases z; done))
  · obtain ⟨w, rfl, hw⟩ := one_of h1
    cases e
    cases hw with
    | tup a b => exact call_tupleT pins s σ H _ us Q I rx ⟨_, _, rfl, a, f.here hs (.tup a b)⟩
  · rename_i x nt _
    obtain ⟨w, rfl, hw⟩ := one_of h1
    obtain ⟨ys, e1, rfl⟩ := Option.map_eq_some_iff.mp e
    unfold itemsOf at e1
    split at e1
    · exact absurd rfl (nt _)
    · cases e1
      cases hw with
      | rol a b => exact call_tuple_of pins s σ H _ us Q I rx ⟨_, _, rfl, .inl ⟨rol_seq a, fun p hp => f.tup hs b hp⟩⟩
    · split at e1
      · rename_i ea
        cases e1
        cases hw with
        | loc l =>
          obtain ⟨vs, hv, qv⟩ := hs.lst ea l
          exact call_tuple_of pins s σ H _ us Q I rx ⟨_, _, rfl, .inl ⟨SqL.of hv, fun p hp => f.tup hs qv hp⟩⟩
      · cases e1
    · cases e1
  · cases e
theorem list_ok : CallR X (.type "list") (RBi X (opBi .list)) := by
  intro pins s σ H xs us Q I rx h
  obtain ⟨ρ, st, ds, r, hs, h1, e, f⟩ := h
  unfold opBi at e
  split at e <;> first | (rename_i z _; cases z; done) | skip
  all_goals (try (rename_i z; cases z; done))
  · obtain ⟨w, rfl, hw⟩ := one_of h1
    obtain ⟨ys, e1, rfl⟩ := Option.map_eq_some_iff.mp e
    obtain ⟨p, vs, rfl, hq, hv⟩ := items_at hs e1 hw
    exact call_list_of pins s σ H _ us Q I rx ⟨p, vs, rfl, hq, fun l hl => f.lst hs hv hl⟩
  · cases e
theorem int_ok : CallR X (.type "int") (RBi X (opBi .int)) := by
  intro pins s σ H xs us Q I rx h
  obtain ⟨ρ, st, ds, r, hs, h1, e, f⟩ := h
  unfold opBi at e
  split at e <;> first | (rename_i z _; cases z; done) | skip
  all_goals (try (rename_i z; cases z; done))
  · obtain ⟨w, rfl, hw⟩ := one_of h1
    cases e; cases hw
    exact call_int1 pins s σ H _ us Q I rx (.inl ⟨_, rfl, f.here hs (.int _)⟩)
  · obtain ⟨w, rfl, hw⟩ := one_of h1
    cases e; cases hw
    exact call_int1 pins s σ H _ us Q I rx (.inr ⟨_, rfl, f.here hs (.int _)⟩)
  · cases e
theorem max_ok (hc : X.calm = true) : CallR X (.builtin "max") (RBi X (opBi .max2)) := by
  intro pins s σ H xs us Q I rx h
  obtain ⟨ρ, st, ds, r, hs, h1, e, f⟩ := h
  unfold opBi at e
  split at e <;> first | (rename_i z _; cases z; done) | skip
  all_goals (try (rename_i z; cases z; done))
  · obtain ⟨w, w2, rfl, hw, hw2⟩ := two_of h1
    cases e; cases hw; cases hw2
    exact call_max2 hc pins s σ H _ us Q I rx ⟨_, _, rfl, f.here hs (.int _)⟩
  · cases e
theorem min_ok (hc : X.calm = true) : CallR X (.builtin "min") (RBi X (opBi .min2)) := by
  intro pins s σ H xs us Q I rx h
  obtain ⟨ρ, st, ds, r, hs, h1, e, f⟩ := h
  unfold opBi at e
  split at e <;> first | (rename_i z _; cases z; done) | skip
  all_goals (try (rename_i z; cases z; done))
  · obtain ⟨w, w2, rfl, hw, hw2⟩ := two_of h1
    cases e; cases hw; cases hw2
    exact call_min2 hc pins s σ H _ us Q I rx ⟨_, _, rfl, f.here hs (.int _)⟩
  · cases e
theorem pairsOf_one {ds : List D} {k : Key} {d : D} (e : pairsOf ds = some [(k, d)]) : ∃ kd, ds = [.tup [kd, d]] ∧ ((∃ i, k = .inl i ∧ kd = .int i) ∨ ∃ z, k = .inr z ∧ kd = .str z) := by
  unfold pairsOf at e
  split at e
  · cases e
  · obtain ⟨ps, e1, e2⟩ := Option.map_eq_some_iff.mp e
    cases e2
    rename_i i r
    cases r with
    | nil => exact ⟨_, rfl, .inl ⟨i, rfl, rfl⟩⟩
    | cons y ys =>
      unfold pairsOf at e1
      split at e1
      · rename_i z; cases z
      · obtain ⟨_, _, z⟩ := Option.map_eq_some_iff.mp e1; cases z
      · obtain ⟨_, _, z⟩ := Option.map_eq_some_iff.mp e1; cases z
      · cases e1
  · obtain ⟨ps, e1, e2⟩ := Option.map_eq_some_iff.mp e
    cases e2
    rename_i i r
    cases r with
    | nil => exact ⟨_, rfl, .inr ⟨i, rfl, rfl⟩⟩
    | cons y ys =>
      unfold pairsOf at e1
      split at e1
      · rename_i z; cases z
      · obtain ⟨_, _, z⟩ := Option.map_eq_some_iff.mp e1; cases z
      · obtain ⟨_, _, z⟩ := Option.map_eq_some_iff.mp e1; cases z
      · cases e1
  · cases e
theorem dict_ok (hc : X.calm = true) : CallR X (.type "dict") (RBi X (opBi .dict)) := by
  intro pins s σ H xs us Q I rx h
  obtain ⟨ρ, st, ds, r, hs, h1, e, f⟩ := h
  unfold opBi at e
  split at e <;> first | (rename_i z _; cases z; done) | skip
  all_goals (try (rename_i z; cases z; done))
  · obtain ⟨w, rfl, hw⟩ := one_of h1
    split at e
    · rename_i ea
      split at e
      · rename_i p ep
        obtain ⟨k, d⟩ := p
        obtain ⟨kd, rfl, hk⟩ := pairsOf_one ep
        cases e
        cases hw with
        | loc l =>
          obtain ⟨vs, hv, qv⟩ := hs.lst ea l
          obtain ⟨y, rfl, qy⟩ := one_of qv
          cases qy with
          | tup a b =>
            obtain ⟨v1, v2, rfl, b1, b2⟩ := two_of b
            have ek : v1 = kV k := by
              rcases hk with ⟨i, rfl, rfl⟩ | ⟨z, rfl, rfl⟩ <;> (cases b1; rfl)
            subst ek
            refine call_dictP hc pins s σ H _ us Q I rx ⟨_, [_], [(k, v2)], rfl, SqL.of hv, .cons a .nil, fun p hp => ?_⟩
            have x := hs.new hp (o := .dK (mergeK [] [(k, v2)])) (c := .dK [(k, d)]) ⟨_, upd_same, .cons ⟨rfl, b2.mono ⟨List.prefix_refl _, Tk.new hp⟩⟩ .nil⟩
            exact f _ _ _ x.2 x.1 hs.newRef
      · cases e
    · cases e
  · cases e
/-- a builtin's call -/
theorem bi_ok (hc : X.calm = true) (hg : X.A.guards = some []) (hu : X.A.units + 200 < cLine) : ∀ b : Bi, CallR X (biF b) (RBi X (opBi b))
  | .len => len_ok
  | .abs => abs_ok
  | .sum => sum_ok hc
  | .tuple => tuple_ok
  | .list => list_ok
  | .int => int_ok
  | .repr => repr_ok hg hu
  | .max2 => max_ok hc
  | .min2 => min_ok hc
  | .dict => dict_ok hc
  | .any => fun _ _ _ _ _ _ _ _ _ ⟨_, _, _, _, _, _, e, _⟩ => by
    unfold opBi at e; split at e <;> first | (rename_i z _; cases z; done) | skip
    all_goals (try (rename_i z; cases z; done))
    cases e
  | .all => fun _ _ _ _ _ _ _ _ _ ⟨_, _, _, _, _, _, e, _⟩ => by
    unfold opBi at e; split at e <;> first | (rename_i z _; cases z; done) | skip
    all_goals (try (rename_i z; cases z; done))
    cases e
  | .dict0 => fun _ _ _ _ _ _ _ _ _ ⟨_, _, _, _, _, _, e, _⟩ => by
    unfold opBi at e; split at e <;> first | (rename_i z _; cases z; done) | skip
    all_goals (try (rename_i z; cases z; done))
    cases e
  | .str => fun _ _ _ _ _ _ _ _ _ ⟨_, _, _, _, _, _, e, _⟩ => by
    unfold opBi at e; split at e <;> first | (rename_i z _; cases z; done) | skip
    all_goals (try (rename_i z; cases z; done))
    cases e

/-! ### isinstance -/
def tyN : Ty → String
  | .int => "int" | .bool => "bool" | .str => "str" | .tuple => "tuple" | .list => "list" | .dict => "dict"
theorem kit6 {K : PySem.W.Frag} (a : String) (t : Ty) (ha : a = "NoneType" ∨ a = "bool" ∨ a = "int" ∨ a = "str" ∨ a = "tuple" ∨ a = "list" ∨ a = "dict") :
    PySem.W.kitOne K (.type a) (.type (tyN t)) = some (if a = "bool" then (t == .int || t == .bool) else a == tyN t) := by
  rcases ha with rfl | rfl | rfl | rfl | rfl | rfl | rfl <;> cases t <;> exact kit_ty (by decide +kernel)
theorem isi_ok (t : Ty) : CallR X (.builtin "isinstance") (fun vs H Q => ∃ ρ st v d b, vs = [v, .ty (tyN t)] ∧ RS X.K ρ H st ∧ RD X.K ρ H v d ∧ tyB t d st = some b ∧ Q (.bl b) H) := by
  intro pins s σ H xs us Q I rx h
  obtain ⟨ρ, st, v, d, b, rfl, hs, h1, e, q⟩ := h
  have fin : ∀ a : String, TyX X.K H v (.type a) → (a = "NoneType" ∨ a = "bool" ∨ a = "int" ∨ a = "str" ∨ a = "tuple" ∨ a = "list" ∨ a = "dict") → (if a = "bool" then (t == .int || t == .bool) else a == tyN t) = b →
      wpAny (model X.prog X.w) X.A (call (.builtin "isinstance") us) (EP X pins σ Q) X.xe s := fun a ty ha eb =>
    call_isi pins s σ H _ us Q I rx ⟨v, _, _, _, b, rfl, .ty _, ty, by rw [← eb]; exact kit6 a t ha, q⟩
  unfold tyB at e
  split at e
  · cases h1; cases e; exact fin _ (.base .non) (by simp) (by cases t <;> rfl)
  · cases h1; cases e; exact fin _ (.base (.bl _)) (by simp) (by cases t <;> rfl)
  · cases h1; cases e; exact fin _ (.base (.int _)) (by simp) (by cases t <;> rfl)
  · cases h1; cases e; exact fin _ (.base (.str _)) (by simp) (by cases t <;> rfl)
  · cases e
    cases h1 with
    | tup a c =>
      refine fin "tuple" ?_ (by simp) (by cases t <;> rfl)
      rcases a with (a | ⟨o, a⟩) | ⟨o, its, n, a, c1, _⟩
      · exact .base (.tup a)
      · exact .fTuple a
      · exact .kTuple a c1
  · cases e
  · split at e
    · rename_i ea
      cases e
      cases h1 with
      | loc l =>
        obtain ⟨vs, hv, _⟩ := hs.lst ea l
        exact fin "list" (.base (.lst hv)) (by simp) (by cases t <;> rfl)
    · rename_i ea
      cases e
      cases h1 with
      | loc l =>
        obtain ⟨vs, hv, _⟩ := hs.dK ea l
        exact fin "dict" (.base (.dK hv)) (by simp) (by cases t <;> rfl)
    · rename_i ea
      cases e
      cases h1 with
      | loc l =>
        obtain ⟨vs, hv, _⟩ := hs.dT ea l
        exact fin "dict" (.base (.dT hv)) (by simp) (by cases t <;> rfl)
    · cases e
end Iv
set_option Elab.async false
set_option linter.all false
set_option maxRecDepth 100000
set_option maxHeartbeats 4000000
namespace Iv
open PySem PySem.Spec PyProof.Rows L2
/-! ### enumerate of a tuple -/
theorem enum_new {v : Value} {ob : Obj} {G : Heap → Prop} (B : Begins v ob G) :
    Meets (Builtin.«enumerate.__new__» ⟨[.type "enumerate", v], []⟩) (fun _ R s => G s.heap ∧
      R (.ok (.ret (.ref (s.heap.push ob).objs.size))) { s with heap := (s.heap.push ob).push { cls := .type "enumerate", data := .fields #[.none, .bool false, .ref s.heap.objs.size, rawInt 0, .none, .none] } }) :=
  .of_wp fun prog w A R s h => by
    obtain ⟨hp, gn, dr, tk, os⟩ := s
    obtain ⟨g1, fin⟩ := h
    have sub := sub_enumerate
    have it1 : ∀ {A' : Around} {E Q : Value → Shared → Prop}, Q (.ref hp.objs.size) ⟨hp.push ob, gn, dr, tk, os⟩ → wpAny (model prog w) A' (pyIter v) Q E ⟨hp, gn, dr, tk, os⟩ :=
      fun z => B.iter prog w _ _ ⟨hp, gn, dr, tk, os⟩ _ g1 z
    wp_walk using it1
    refine wpAny_stack_any fun stk => wpAny_pure ?_
    split
    · rename_i cc _ _ _ _ _
      cases (cc == Value.type "enumerate") <;> (wp_walk using it1; exact ⟨_, rfl, fin⟩)
    · (wp_walk using it1; exact ⟨_, rfl, fin⟩)
theorem enum_call {prog : Program} {w : World} {A : Around} {E Q : Value → Shared → Prop} {s : Shared} {v : Value} {ob : Obj} {G : Heap → Prop} (B : Begins v ob G) (g1 : G s.heap)
    (fin : ∀ h', IsEnum h' (s.heap.objs.size + 1) s.heap.objs.size 0 .none → h'.get? s.heap.objs.size = some ob → (∀ b o, s.heap.get? b = some o → h'.get? b = some o) → Q (.ref (s.heap.objs.size + 1)) { s with heap := h' }) :
    wpAny (model prog w) A (call (.type "enumerate") [v]) Q E s := by
  have hz : (s.heap.push ob).objs.size = s.heap.objs.size + 1 := Heap.size_push ..
  have he := Heap.get?_push_size (s.heap.push ob) (o := { cls := .type "enumerate", data := .fields #[.none, .bool false, .ref s.heap.objs.size, rawInt 0, .none, .none] }) rfl
  rw [hz] at he
  refine callType_new F.called_enumerate (by decide) (F.typeCall_enumerate_1 _) (F.newCall_enumerate_1 _) (fun z => F.args_object_init_2 z _) F.entry_enumerate_new (enum_new B) ⟨g1, ?_⟩
  show _ ∧ _
  rw [hz]
  exact ⟨⟨_, he, rfl⟩, fin _ he (Heap.get?_push_of_some _ (Heap.get?_push_size _ B.free)) fun b o x => Heap.get?_push_of_some _ (Heap.get?_push_of_some _ x)⟩
/-- (i, the i-th of the tuple at a), a new pair each -/
def ItE (K : PySem.W.Frag) (a : Addr) : L2.It where
  go := fun i H => ∃ (xs : List V) (x : V), SqT K H a xs ∧ xs[i]? = some x
  yld := fun i H v H' => ∃ T x, v = .ref T ∧ H T = none ∧ H' = upd H T (.tup [.int (i : Nat), x]) ∧ ∀ xs, SqT K H a xs → xs[i]? = some x
  stop := fun i H => ∃ xs : List V, SqT K H a xs ∧ xs.length ≤ i
theorem turn_E {P : Program} {w : World} {K : PySem.W.Frag} {els : List Expr} {kk : Nat} {tp : Pos} (a e it : Addr) :
    Turn P w K (.Tuple els kk tp) (ItE K a) [e, it] e (fun i h => (∃ old, IsEnum h e it ((i : Nat) : Int) old) ∧ h.IsTupleIter it a i ∧ e ≠ it ∧ a ≠ it ∧ a ≠ e) where
  mem := List.mem_cons_self
  obj := fun i h st b hb => by
    obtain ⟨⟨old, he⟩, ⟨o, ho, hc, hd⟩, _⟩ := st
    rcases List.mem_cons.mp hb with z | z
    · subst z; exact ⟨_, he, fun v q => nomatch q⟩
    · have z' : b = it := List.mem_singleton.mp z
      subst z'; exact ⟨o, ho, fun v q => by rw [hd] at q; cases q⟩
  keep := fun i h h' ⟨⟨old, he⟩, hi, n1, n2, n3⟩ k => ⟨⟨old, k e List.mem_cons_self _ he⟩, hi.at fun o q => k it (List.mem_cons_of_mem _ List.mem_cons_self) o q, n1, n2, n3⟩
  item := by
    intro X e1 e2 e3 hc i pins s σ H E I hf st hg
    subst e1 e2 e3
    obtain ⟨⟨old, he⟩, hit, n1, n2, n3⟩ := st
    obtain ⟨xs, x, hq, hx⟩ := hg
    obtain ⟨its, rv, p, hz⟩ := I.tuple hq
    obtain ⟨u, hu, ru⟩ := rv.get hx
    have hel : e < s.heap.objs.size := Heap.lt_size he
    have hil : it < s.heap.objs.size := by obtain ⟨_, q, _⟩ := hit; exact Heap.lt_size q
    have pT : s.heap.IsTuple a its.toArray := p
    have il : i < its.toArray.size := by
      have := (List.getElem?_eq_some_iff.mp hu).1
      simpa using this
    refine wpAny_pyNext_enum_itemD (Draws.tuple (prog := X.prog) (w := X.w) (A := X.A.in1) (I.ok.hd hc) it a n2 its.toArray) he ⟨hit, pT⟩ il n1 (fun z => ?_) fun y h' tk py ho hst' hT _ hk => ?_
    · rcases List.mem_cons.mp z with z | z
      · exact n1 z
      · exact n3 (List.mem_singleton.mp z).symm
    have ey : y = u := by
      have py' : its.toArray[i]? = some y := py
      rw [List.getElem?_toArray, hu] at py'
      exact (Option.some.inj py').symm
    subst ey
    refine ⟨_, rfl, wpAny_letOwnedTupleGo_enum (s := { s with heap := h', toks := tk + 1 }) ho fun h2 he2 sb => ?_⟩
    have hT2 := (sb.2 _ (Nat.ne_of_gt hel)).trans hT
    have nw : ObjOk X.prog X.w (upd H s.heap.objs.size (.tup [.int (i : Nat), x])) h2 s.heap.objs.size (.tup [.int (i : Nat), x]) :=
      ⟨by show 2 ≤ sizeLine; decide, [.int i tk, y], .cons ⟨_, rfl⟩ (.cons ru .nil), ⟨_, hT2, rfl, _, rfl⟩⟩
    have I1 := I.turnedNew (t' := tk + 1) (ch := [e, it]) (fun b ob hb q => (sb.2 b (fun z => hb (z ▸ List.mem_cons_self))).trans (hk b ob (fun z => hb (z ▸ List.mem_cons_self)) (fun z => hb (z ▸ List.mem_cons_of_mem _ List.mem_cons_self)) q)) hf (Nat.le_refl _) nw
    refine ⟨.ref s.heap.objs.size, _, I1, rfl, ⟨_, x, rfl, I.hok.fresh (Nat.le_refl _), rfl, fun ys hy => by rw [I.tuple_inj hy hq]; exact hx⟩, ⟨⟨y, ?_⟩, hst'.1.at fun o q => (sb.2 it (Ne.symm n1)).trans q, n1, n2, n3⟩, fun b hb => ?_⟩
    · rw [show ((i + 1 : Nat) : Int) = (i : Int) + 1 by omega]; exact he2
    · have hb' : b < s.heap.objs.size := by
        rcases List.mem_cons.mp hb with z | z
        · subst z; exact hel
        · rw [List.mem_singleton.mp z]; exact hil
      rw [upd_ne (Nat.ne_of_lt hb')]
      exact (hf b hb).1
  done := by
    intro X e1 e2 e3 hc i pins s σ H E I hf st hg
    subst e1 e2 e3
    obtain ⟨⟨old, he⟩, hit, n1, n2, n3⟩ := st
    obtain ⟨xs, hq, hx⟩ := hg
    obtain ⟨its, rv, p, hz⟩ := I.tuple hq
    obtain ⟨f0, f1, f2, f3, f4, f5⟩ := hf it (List.mem_cons_of_mem _ List.mem_cons_self)
    have hl := rv.length
    have pT : s.heap.IsTuple a its.toArray := p
    unfold pyNext
    have hT : s.TypeIs (.ref e) "enumerate" := ⟨_, he, rfl⟩
    refine wpAny_bind (wpAny_attempt (wpAny_callSpecial?_slot (name := Str.ofString "__next__") hT F.slot_enumerate_next (wpAny_call_entry F.slot_enumerate_next hT F.entry_enumerate_next ?_ (F.args_enumerate_next_1 _))))
    show wpAny _ _ (field (.ref e) 2 >>= _) _ _ _
    refine wpAny_bind (wpAny_field he rfl (x := .ref it) rfl ?_)
    refine wpAny_bind (wpAny_nextOf_tuple_end (I.ok.hd hc) hit pT (by simp; omega) fun h' x he' hx' => ?_)
    obtain ⟨o, ho, hcl⟩ := hx'
    refine wpAny_bind (wpAny_isInstance (T := "StopIteration") (b := true) ⟨o, ho, hcl⟩ isSubtype_stop ?_)
    exact wpAny_pure ⟨rfl, I.turned (t' := s.toks) (fun b o hb q => he' b o hb q) f0 f1 f3 f4 f5⟩
  self := fun A i s Q E ⟨⟨_, he⟩, _⟩ h => wpAny_pyIter_enum he h
def iEnuT (K : PySem.W.Frag) (ta : TA) : TI := fun σ H R => ta σ H fun vs H1 => ∃ a xs, vs = [.ref a] ∧ SqT K H1 a xs ∧ R (ItE K a) H1
theorem pi_enuT {X : Cx} {e : Expr} {ta : TA} {p pos tp : Pos} {els : List Expr} {kk : Nat} (hg : Gl X "enumerate") (hm : X.mg "enumerate" = none) (ha : PA X [e] ta) (hs : starEach [e] X.env = [(false, eval e X.env)]) :
    PI X (.Tuple els kk tp) (.Call (.Name "enumerate" p) [e] [] pos) (iEnuT X.K ta) := by
  refine ⟨fun pins s σ H R I h => ?_⟩
  refine Call_ (ld_blt I hg hm boot_enumerate (callWith_type1 (thn (ha.run pos pins s σ H _ I h) fun us s1 ⟨vs, H1, I1, r1, q1⟩ => ?_) hs rfl))
  obtain ⟨a, xs, ex, hq, q⟩ := q1
  subst ex
  cases r1 with
  | cons r rr =>
    cases rr
    cases r
    obtain ⟨its, rv, p', hz⟩ := I1.tuple hq
    have pT : s1.heap.IsTuple a its.toArray := p'
    have al : a < s1.heap.objs.size := by obtain ⟨_, z, _⟩ := pT; exact Heap.lt_size z
    refine enum_call (begins_tuple a its.toArray) pT fun h' he hit hk => wpAny_pyIter_enum he ?_
    have I2 : L2.Inv X pins σ H1 { s1 with heap := h' } := I1.kept (t' := s1.toks) hk
    refine ⟨s1.heap.objs.size + 1, [s1.heap.objs.size + 1, s1.heap.objs.size], _, _, H1, rfl, I2, turn_E a (s1.heap.objs.size + 1) s1.heap.objs.size, ⟨⟨.none, he⟩, ⟨_, hit, rfl, rfl⟩, Nat.succ_ne_self _, Nat.ne_of_lt al, Nat.ne_of_lt (Nat.lt_succ_of_lt al)⟩, fun b hb => ?_, q⟩
    have hle : s1.heap.objs.size ≤ b := by
      rcases List.mem_cons.mp hb with z | z
      · rw [z]; exact Nat.le_succ _
      · rw [List.mem_singleton.mp z]; exact Nat.le_refl _
    exact I1.fpOk hle (I1.hok.fresh hle)
theorem walk_E {K : PySem.W.Frag} {a : Addr} {xs : List V} : Walk (ItE K a) xs.length (fun H => SqT K H a xs) (YPair (fun i => some (.int (i : Nat))) (fun i => xs[i]?)) := by
  refine ⟨fun i _ hi q => ⟨xs, xs[i], q, by simp [hi]⟩, fun _ q => ⟨xs, q, Nat.le_refl _⟩, fun i H v H' _ q ⟨T, x, h1, h2, h3, h4⟩ => ⟨T, .int (i : Nat), x, h1, h2, h3, rfl, h4 xs q⟩⟩
end Iv
set_option Elab.async false
set_option linter.all false
set_option maxRecDepth 100000
set_option maxHeartbeats 4000000
namespace Iv
open PySem PySem.Spec PyProof.Rows L2
variable {X : Cx}
/-! ### methods of lists -/
def RMe (X : Cx) (f : D → List D → Sto → Option (D × Sto)) : V → List V → Hp → VK → Prop := fun x vs H Q => ∃ ρ st d ds r, RS X.K ρ H st ∧ RD X.K ρ H x d ∧ RDs X.K ρ H vs ds ∧ f d ds st = some r ∧ Fin X.K ρ H r.1 r.2 Q
def meN : Me → String
  | .append => "list.append" | .extend => "list.extend" | .pop => "list.pop" | .popAt => "list.pop" | .insert => "list.insert" | .join => "str.join" | .index => "list.index" | .get1 => "dict.get" | .get2 => "dict.get" | .reverse => "list.reverse"
theorem Fin.put {K : PySem.W.Frag} {ρ : List Addr} {H : Hp} {d : D} {st : Sto} {Q : VK} {n : Nat} {ds : List D} {c0 : C} {a : Addr} {vs : List V} {v : V} (f : Fin K ρ H d (st.set n (.lst ds)) Q) (hs : RS K ρ H st) (h : st[n]? = some c0) (e : ρ[n]? = some a) (q : RDs K ρ H vs ds) (hv : RD K ρ H v d) : Q v (upd H a (.lst vs)) :=
  f _ _ _ (hs.putL h e q).2 (hs.putL h e q).1 (hv.mono (hs.putL h e q).2)
theorem append_ok : MtM X "list.append" (RMe X (opMe .append)) := by
  intro pins s σ H x xs v us Q I rx rv h
  obtain ⟨ρ, st, d, ds, r, hs, h1, h2, e, f⟩ := h
  unfold opMe at e
  split at e <;> first | (rename_i z _ _; cases z; done) | skip
  all_goals (try (rename_i z; cases z; done))
  all_goals (try (rename_i z _; cases z; done))
  · split at e
    · rename_i ea
      split at e
      · rename_i hz
        cases e
        obtain ⟨w, rfl, hw⟩ := one_of h2
        cases h1 with
        | loc l =>
          obtain ⟨vs, hv, qv⟩ := hs.lst ea l
          exact mt_append pins s σ H _ _ v us Q I rx rv ⟨_, _, _, rfl, rfl, hv, by rw [qv.length]; exact hz, f.put hs ea l (qv.append (.cons hw .nil)) .non⟩
      · cases e
    · cases e
  · cases e
theorem extend_ok : MtM X "list.extend" (RMe X (opMe .extend)) := by
  intro pins s σ H x xs v us Q I rx rv h
  obtain ⟨ρ, st, d, ds, r, hs, h1, h2, e, f⟩ := h
  unfold opMe at e
  split at e <;> first | (rename_i z _ _; cases z; done) | skip
  all_goals (try (rename_i z; cases z; done))
  all_goals (try (rename_i z _; cases z; done))
  · split at e
    · rename_i ea eb
      split at e
      · rename_i hz
        cases e
        obtain ⟨w, rfl, hw⟩ := one_of h2
        cases h1 with
        | loc l =>
          cases hw with
          | loc l2 =>
            obtain ⟨vs, hv, qv⟩ := hs.lst ea l
            obtain ⟨ws, hv2, qv2⟩ := hs.lst eb l2
            exact mt_extend pins s σ H _ _ v us Q I rx rv ⟨_, _, _, _, rfl, rfl, hv, hv2, by rw [qv.length, qv2.length]; exact hz, f.put hs ea l (qv.append qv2) .non⟩
      · cases e
    · cases e
  · cases e
theorem pop_ok : MtM X "list.pop" (RMe X (opMe .pop)) := by
  intro pins s σ H x xs v us Q I rx rv h
  obtain ⟨ρ, st, d, ds, r, hs, h1, h2, e, f⟩ := h
  unfold opMe at e
  split at e <;> first | (rename_i z _ _; cases z; done) | skip
  all_goals (try (rename_i z; cases z; done))
  all_goals (try (rename_i z _; cases z; done))
  · split at e
    · rename_i ea
      obtain ⟨y, ey, rfl⟩ := Option.map_eq_some_iff.mp e
      cases h2
      cases h1 with
      | loc l =>
        obtain ⟨vs, hv, qv⟩ := hs.lst ea l
        obtain ⟨w, q1, q2⟩ := qv.get ey
        rw [← qv.length] at q1
        exact mt_pop pins s σ H _ _ v us Q I rx rv ⟨_, _, w, rfl, rfl, hv, q1, f.put hs ea l qv.dropLast q2⟩
    · cases e
  · cases e
theorem popAt_ok : MtM X "list.pop" (RMe X (opMe .popAt)) := by
  intro pins s σ H x xs v us Q I rx rv h
  obtain ⟨ρ, st, d, ds, r, hs, h1, h2, e, f⟩ := h
  unfold opMe at e
  split at e <;> first | (rename_i z _ _; cases z; done) | skip
  all_goals (try (rename_i z; cases z; done))
  all_goals (try (rename_i z _; cases z; done))
  · split at e
    · rename_i ea
      obtain ⟨k, ek, e2⟩ := Option.bind_eq_some_iff.mp e
      obtain ⟨y, ey, rfl⟩ := Option.map_eq_some_iff.mp e2
      obtain ⟨w, rfl, hw⟩ := one_of h2
      cases hw
      cases h1 with
      | loc l =>
        obtain ⟨vs, hv, qv⟩ := hs.lst ea l
        obtain ⟨w, q1, q2⟩ := qv.get ey
        rw [← qv.length] at ek
        obtain ⟨k1, k2, k3, k4⟩ := ixN_seq ek
        obtain ⟨_, _, _, hz⟩ := I.list (SqL.of (K := X.K) hv)
        rw [sizeLine_eq] at hz
        exact mt_popAt pins s σ H _ _ v us Q I rx rv ⟨_, _, _, k, w, rfl, rfl, hv, by omega, by omega, k1, q1, f.put hs ea l (qv.eraseIdx k) q2⟩
    · cases e
  · cases e
theorem rcv_list {K : PySem.W.Frag} {ρ : List Addr} {H : Hp} {st : Sto} {m : Me} {d : D} {x : V} (hm : m ≠ .join) (hs : RS K ρ H st) (h : RD K ρ H x d) (e : rcv m d st = true) : tyV K "list" x H := by
  unfold rcv at e
  split at e
  · exact absurd rfl hm
  · exact absurd rfl hm
  · split at e
    · rename_i ea
      cases h with
      | loc l =>
        obtain ⟨vs, hv, _⟩ := hs.lst ea l
        exact .inl ⟨rfl, _, SqL.of hv⟩
    · cases e
  · cases e
/-! ### o[i] = v -/
theorem opSet_ok : PSet X (fun o i v H Q => ∃ ρ st d1 d2 d3 st', RS X.K ρ H st ∧ RD X.K ρ H o d1 ∧ RD X.K ρ H i d2 ∧ RD X.K ρ H v d3 ∧ opSet d1 d2 d3 st = some st' ∧ ∀ ρ' H', Ext ρ ρ' H H' → RS X.K ρ' H' st' → Q H') := by
  intro pins s σ H o i v ov iv u Q I ro ri rv h
  obtain ⟨ρ, st, d1, d2, d3, st', hs, h1, h2, h3, e, f⟩ := h
  unfold opSet at e
  split at e
  · split at e
    · rename_i ea
      obtain ⟨j, ej, rfl⟩ := Option.map_eq_some_iff.mp e
      cases h2
      cases h1 with
      | loc l =>
        obtain ⟨vs, hv, qv⟩ := hs.lst ea l
        rw [← qv.length] at ej
        have x := hs.putL ea l (qv.set h3 j)
        exact set_list pins s σ H _ _ v ov iv u Q I ro ri rv ⟨_, _, _, j, rfl, rfl, hv, ej, f _ _ x.2 x.1⟩
    · cases e
  · cases e

/-! ### static look -/
/-- what stands fixed of a body or a block: the names by slot, the scope, whether it is a def's own body; the program's functions, constants, builtins, keyword calls -/
structure Cs where
  N : List Str
  sc : Scope
  body : Bool
  fn : List (Str × List Str)
  gl : List Str
  bn : List Str
  kw : List (Nat × Nat × List Str × List Nat)
def okName (x : Str) : Bool := !(x == ("__debug__" : Str)) && !(x == ("__classdict__" : Str)) && !(x == ("__name__" : Str))
def vis (c : Cs) (x : Str) : Bool := match c.sc.names.lookup x with
  | some .local => true
  | some .cell => true
  | some .free => true
  | _ => false
def glob (c : Cs) (x : Str) : Bool := match c.sc.names.lookup x with
  | some .globalImplicit => true
  | _ => false
def store (c : Cs) (x : Str) : Bool := match c.sc.names.lookup x with
  | some .local => true
  | some .cell => c.body
  | _ => false
def headE : Expr → Bool
  | .Starred .. => false
  | .Slice .. => false
  | .Set .. => false
  | _ => true
def compE : Expr → Bool
  | .ListComp .. => true
  | .SetComp .. => true
  | .DictComp .. => true
  | _ => false
/-- what a for or a comprehension walks is no set display -/
def compI : Expr → Bool
  | .Set .. => false
  | _ => true
def callE : Expr → Bool
  | .Call .. => true
  | _ => false
def biN : Bi → Str
  | .len => "len" | .abs => "abs" | .sum => "sum" | .tuple => "tuple" | .list => "list" | .int => "int" | .repr => "repr" | .max2 => "max" | .min2 => "min" | .dict => "dict" | .any => "any" | .all => "all" | .dict0 => "dict" | .str => "str"
def meS : Me → Str
  | .append => "append" | .extend => "extend" | .pop => "pop" | .popAt => "pop" | .insert => "insert" | .join => "join" | .index => "index" | .get1 => "get" | .get2 => "get" | .reverse => "reverse"
def tyS : Ty → Str
  | .int => "int" | .bool => "bool" | .str => "str" | .tuple => "tuple" | .list => "list" | .dict => "dict"
mutual
def ckT (c : Cs) : T → Expr → Bool
  | .nm i, t => match t with
    | .Name x _ => decide (c.N[i]? = some x) && store c x
    | _ => false
  | .tp ts, t => match t with
    | .Tuple es _ _ => ckTs c ts es
    | _ => false
def ckTs (c : Cs) : Ts → List Expr → Bool
  | .nil, l => match l with
    | [] => true
    | _ => false
  | .cons t ts, l => match l with
    | e :: es => headE e && ckT c t e && ckTs c ts es
    | _ => false
end
mutual
def T.sl : T → List Nat
  | .nm i => [i]
  | .tp ts => ts.sl
def Ts.sl : Ts → List Nat
  | .nil => []
  | .cons t ts => t.sl ++ ts.sl
end
def T.tup : T → Bool
  | .tp _ => true
  | _ => false
def Es.one : Es → Bool
  | .nil => true
  | .cons _ .nil => true
  | _ => false
/-- what may stand as a test -/
def tst : E → Bool
  | .ife _ _ _ => false
  | _ => true
def Es.tst : Es → Bool
  | .nil => true
  | .cons e es => Iv.tst e && es.tst
def pre (c : Cs) (x : Str) : Bool := glob c x && decide (x ∈ c.bn) && okName x
mutual
def ckE (c : Cs) : E → Expr → Bool
  | .var i, t => match t with
    | .Name x _ => decide (c.N[i]? = some x) && vis c x && okName x
    | _ => false
  | .glb g, t => match t with
    | .Name x _ => decide (c.gl[g]? = some x) && glob c x && okName x
    | _ => false
  | .non, t => match t with
    | .Constant .none _ _ => true
    | _ => false
  | .bl b, t => match t with
    | .Constant (.bool k) _ _ => decide (b = k)
    | _ => false
  | .int i, t => match t with
    | .Constant (.int k) _ _ => decide (i = k)
    | _ => false
  | .str z, t => match t with
    | .Constant (.str k) _ _ => decide (z = k)
    | _ => false
  | .tup es, t => match t with
    | .Tuple as _ _ => ckEs c es as && decide (as.length ≤ 1000)
    | _ => false
  | .lst es, t => match t with
    | .List as _ => ckEs c es as && decide (as.length ≤ 1000)
    | _ => false
  | .dct0, t => match t with
    | .Dict [] [] _ => true
    | _ => false
  | .bin op a b, t => match t with
    | .BinOp x o y _ => decide (op = o) && ckE c a x && ckE c b y
    | _ => false
  | .neg a, t => match t with
    | .UnaryOp .USub x _ => ckE c a x
    | _ => false
  | .cmp op a b, t => match t with
    | .Compare x [o] [y] _ => decide (op = o) && ckE c a x && ckE c b y && headE y
    | _ => false
  | .chn op op' a b d, t => match t with
    | .Compare x [o, o'] [y, z] _ => decide (op = o) && decide (op' = o') && ckE c a x && ckE c b y && ckE c d z && headE z
    | _ => false
  | .and a b, t => match t with
    | .BoolOp .And [x, y] _ => ckE c a x && ckE c b y && tst a && tst b
    | .BoolOp .And [x, y, z] _ => (match b with
      | .and b1 b2 => ckE c a x && ckE c b1 y && ckE c b2 z && tst a && tst b1 && tst b2
      | _ => false)
    | _ => false
  | .or a b, t => match t with
    | .BoolOp .Or [x, y] _ => ckE c a x && ckE c b y && tst a && tst b
    | .BoolOp .Or [x, y, z] _ => (match b with
      | .or b1 b2 => ckE c a x && ckE c b1 y && ckE c b2 z && tst a && tst b1 && tst b2
      | _ => false)
    | _ => false
  | .not a, t => match t with
    | .UnaryOp .Not x _ => ckE c a x && tst a
    | _ => false
  | .ife d a b, t => match t with
    | .IfExp x y z _ => ckE c d x && ckE c a y && ckE c b z && tst d
    | _ => false
  | .idx a i, t => match t with
    | .Subscript x y _ => ckE c a x && ckE c i y && headE y
    | _ => false
  | .slc a lo hi, t => match t with
    | .Subscript x (.Slice l h none _) _ => ckE c a x && ckO c lo l && ckO c hi h
    | _ => false
  | .rev a, t => match t with
    | .Subscript x (.Slice none none (some (.UnaryOp .USub (.Constant (.int 1) _ _) _)) _) _ => ckE c a x
    | _ => false
  | .call f es, t => match t with
    | .Call (.Name x _) as [] _ => ckEs c es as && glob c x && okName x && decide ((c.fn[f]?).map (fun p => (p.1, p.2.length)) = some (x, as.length))
    | _ => false
  | .calk k es ks, t => match t with
    | .Call (.Name x _) as kws _ => ckEs c es as && ckKs c ks kws && glob c x && okName x && !kws.isEmpty && (match c.kw[k]? with
      | some q => decide (kws.map (·.arg) = q.2.2.1.map some) && decide (as.length = q.2.1) && decide ((c.fn[q.1]?).map (fun p => (p.1, p.2.length)) = some (x, q.2.2.2.length))
      | none => false)
    | _ => false
  | .bi b es, t => match t with
    | .Call (.Name x _) (a1 :: as) [] _ => ckEs c es (a1 :: as) && decide (x = biN b) && pre c x
    | _ => false
  | .isi a ty, t => match t with
    | .Call (.Name x _) [y, .Name z _] [] _ => ckE c a y && headE y && decide (x = "isinstance") && pre c x && decide (z = tyS ty) && pre c z
    | _ => false
  | .mth m o es, t => match t with
    | .Call (.Attribute x n ap) as [] cp => ckE c o x && !callE x && ckEs c es as && decide (n = meS m) && (ap.endLine == cp.line) && (match m with
      | .append => as.length == 1
      | .extend => as.length == 1
      | .pop => as.isEmpty
      | .popAt => as.length == 1
      | _ => false)
    | _ => false
  | .lc elt tg it cs own, t => match t with
    | .ListComp x [⟨te, ie, ifs, 0⟩] scope _ => ckI c it te ie && blkC c.N c.sc scope (own.map fun i => ((c.N[i]?).getD (Str.ofString ""), i)) &&
        ckT { c with sc := relS scope c.sc, body := false } tg te && ckE { c with sc := relS scope c.sc, body := false } elt x && ckEs { c with sc := relS scope c.sc, body := false } cs ifs && cs.one && cs.tst && compI ie && tg.sl.all (fun i => decide (i ∈ own))
    | _ => false
def ckEs (c : Cs) : Es → List Expr → Bool
  | .nil, l => match l with
    | [] => true
    | _ => false
  | .cons e es, l => match l with
    | a :: as => headE a && ckE c e a && ckEs c es as
    | _ => false
def ckKs (c : Cs) : Es → List Keyword → Bool
  | .nil, l => match l with
    | [] => true
    | _ => false
  | .cons e es, l => match l with
    | ⟨some _, a, _⟩ :: as => ckE c e a && ckKs c es as
    | _ => false
def ckO (c : Cs) : OE → Option Expr → Bool
  | .no, o => match o with
    | none => true
    | _ => false
  | .so e, o => match o with
    | some a => ckE c e a
    | _ => false
def ckI (c : Cs) : It → Expr → Expr → Bool
  | .val e, _, a => ckE c e a && headE a
  | .rng1 e, _, t => match t with
    | .Call (.Name x _) [a] [] _ => ckE c e a && headE a && decide (x = "range") && pre c x
    | _ => false
  | .rng2 e f, _, t => match t with
    | .Call (.Name x _) [a, b] [] _ => ckE c e a && headE a && ckE c f b && headE b && decide (x = "range") && pre c x
    | _ => false
  | .enu e, tg, t => match tg, t with
    | .Tuple _ _ _, .Call (.Name x _) [a] [] _ => ckE c e a && headE a && decide (x = "enumerate") && pre c x
    | _, _ => false
  | .zip e f, tg, t => match tg, t with
    | .Tuple _ _ _, .Call (.Name x _) [a, b] [] _ => ckE c e a && headE a && ckE c f b && headE b && decide (x = "zip") && pre c x
    | _, _ => false
end
end Iv
set_option Elab.async false
set_option linter.all false
set_option maxRecDepth 100000
set_option maxHeartbeats 4000000
namespace Iv
open PySem PySem.Spec PyProof.Rows L2
/-! ### a def's promise where no repr is under way around -/
structure FnG (P : Program) (w : World) (K : PySem.W.Frag) (mg : Str → Option Value) (base : Heap) (k : Nat) (f : Addr) (fd : FuncData) (ps : List Str) (sp : Sp) : Prop where
  len : ∀ vs H Q E, sp vs H Q E → vs.length = ps.length
  run : ∀ (A : Around) (out : List PySem.Env) (s : Shared) (H : Hp) (args : Args) (us : List Value) (vs : List V) (Q : VK) (E : XK), A.guards = some [] → Room k A → Env0 P w K mg base A out s H → BindsTo s fd args (ps.zip us) → Vals vs us → sp vs H Q E →
    codeAny (model P w) A (.call (.ref f) args) (CR CX0 out P w H s Q E) s
section
variable {X : Cx} {k : Nat} {f : Addr} {fd : FuncData} {ps ks : List Str} {sp : Sp} {x : Str} {p pos : Pos} {e : Expr} {es : List Expr} {kws : List Keyword} {t tk : TA} {pins : List (Addr × Obj)} {σ : L2.St} {H : Hp} {s : Shared} {Q : VK} {us ws : List Value} {vs zs : List V}
theorem gcall {kw : List (Str × Value)} (F : FnG X.prog X.w X.K X.mg X.base k f fd ps sp) (gd : X.A.guards = some []) (hr : Room k X.A) (I : L2.Inv X pins σ H s) (hb : BindsTo s fd ⟨ws, kw⟩ (ps.zip us)) (r : Vals vs us) (h : sp vs H Q E0) :
    wpAny (model X.prog X.w) X.A (call (.ref f) ws kw) (EP X pins σ Q) X.xe s := by
  refine wpAny_call (codeAny_mono (F.run X.A X.stack s H ⟨ws, kw⟩ us vs Q E0 gd hr I.env0 hb r h) fun res s' hq => ?_)
  cases res with
  | error er => exact (show False from hq).elim
  | ok fl =>
    cases fl with
    | ret u => exact I.after hq
    | next => exact False.elim hq
    | brk => exact False.elim hq
    | cont => exact False.elim hq
theorem headE_star (a : Expr) (as : List Expr) (env : PySem.Env) (h : headE a = true) : starEach (a :: as) env = (false, eval a env) :: starEach as env := by
  cases a <;> first | rfl | (cases h; done)
theorem stars_plain (env : PySem.Env) (pos : Pos) : ∀ (as : List Expr), (∀ a ∈ as, headE a = true) → (backTo pos (starEach as env)).any (·.1) = false
  | [], _ => rfl
  | a :: as, h => by
    rw [headE_star a as env (h a List.mem_cons_self)]
    show (false || (backTo pos (starEach as env)).any (·.1)) = false
    rw [Bool.false_or]
    exact stars_plain env pos as fun b hb => h b (List.mem_cons_of_mem _ hb)
/-- f(e, ..) -/
theorem g_call {a : Expr} {as : List Expr} (F : FnG X.prog X.w X.K X.mg X.base k f fd ps sp) (gd : X.A.guards = some []) (hr : Room k X.A) (hg : Gl X x) (hm : X.mg x = some (.ref f)) (hk : PySem.W.keepIn X.K (.ref f) = true) (hb : Binds X.K fd ps []) (ha : PA X (a :: as) t) (hes : ∀ b ∈ a :: as, headE b = true)
    (hdb : (x == ("__debug__" : Str)) = false) : PE X (.Call (.Name x p) (a :: as) [] pos) (fun σ H Q => t σ H fun vs H1 => sp vs H1 Q E0) := by
  refine ⟨fun pins s σ H Q I h => ?_⟩
  refine wpAny_Call_Name_kw (ld_glob I hg hm ?_ hdb)
  refine PySem.W.callWith_K (h₀ := X.base) I.ok.mod.kin hk (thn (ha.run pos pins s σ H _ I h) fun us s1 ⟨vs, H1, I1, r, q⟩ => ⟨I1.kIn, ?_⟩) (headE_star a as X.env (hes a List.mem_cons_self)) (stars_plain X.env pos as fun b hb => hes b (List.mem_cons_of_mem _ hb))
  have hl : (us ++ []).length = ps.length := by rw [List.append_nil, ← r.length]; exact F.len _ _ _ _ q
  have b := hb s1 us I1.kIn hl
  rw [List.append_nil] at b
  exact gcall F gd hr I1 b r q
theorem g_call0 (F : FnG X.prog X.w X.K X.mg X.base k f fd ps sp) (gd : X.A.guards = some []) (hr : Room k X.A) (hg : Gl X x) (hm : X.mg x = some (.ref f)) (hk : PySem.W.keepIn X.K (.ref f) = true) (hb : Binds X.K fd ps [])
    (hdb : (x == ("__debug__" : Str)) = false) : PE X (.Call (.Name x p) [] [] pos) (fun σ H Q => sp [] H Q E0) := by
  refine ⟨fun pins s σ H Q I h => ?_⟩
  refine wpAny_Call_Name_kw (ld_glob I hg hm ?_ hdb)
  have b := hb s [] I.kIn (F.len _ _ _ _ h)
  exact PySem.W.callWith_K0 I.kIn hk (gcall F gd hr I b .nil h)

/-! ### keywords -/
/-- how a call with m places by place and the names ks by name binds: pm tells which value goes to which place -/
def KB (K : PySem.W.Frag) (fd : FuncData) (ps : List Str) (m : Nat) (ks : List Str) (pm : List Nat) : Prop :=
  ∀ (s : Shared) (us ws : List Value), K.In s.heap → us.length = m → ws.length = ks.length → BindsTo s fd ⟨us, ks.zip ws⟩ (ps.zip (pm.map fun j => ((us ++ ws)[j]?).getD .none))
theorem pick_vals {vs : List V} {us : List Value} (r : Vals vs us) : ∀ pm : List Nat, Vals (pm.map fun j => (vs[j]?).getD .non) (pm.map fun j => (us[j]?).getD .none)
  | [] => .nil
  | j :: pm => by
    refine .cons ?_ (pick_vals r pm)
    show L2.RelV ((vs[j]?).getD V.non) ((us[j]?).getD Value.none)
    cases e : vs[j]? with
    | none => rw [r.none_of e]; rfl
    | some v =>
      obtain ⟨u, e2, q⟩ := r.get e
      rw [e2]; exact q
theorem kw_some (pos : Pos) (env : PySem.Env) : ∀ (kws : List Keyword) (ks : List Str), kws.map (·.arg) = ks.map some → (backToKw pos (keywordEach kws env)).all (·.1.isSome) = true ∧ (backToKw pos (keywordEach kws env)).any (·.1.isNone) = false ∧ (backToKw pos (keywordEach kws env)).filterMap (·.1) = ks
  | [], [], _ => ⟨rfl, rfl, rfl⟩
  | [], _ :: _, h => by cases h
  | _ :: _, [], h => by cases h
  | ⟨n, a, p⟩ :: kws, k :: ks, h => by
    have h1 : n = some k := (List.cons.inj h).1
    obtain ⟨q1, q2, q3⟩ := kw_some pos env kws ks (List.cons.inj h).2
    subst h1
    refine ⟨?_, ?_, ?_⟩
    · show (true && (backToKw pos (keywordEach kws env)).all (·.1.isSome)) = true
      rw [q1]; rfl
    · show (false || (backToKw pos (keywordEach kws env)).any (·.1.isNone)) = false
      rw [q2]; rfl
    · show k :: (backToKw pos (keywordEach kws env)).filterMap (·.1) = k :: ks
      rw [q3]
theorem g_callk {m : Nat} {pm : List Nat} {a : Expr} {as : List Expr} (F : FnG X.prog X.w X.K X.mg X.base k f fd ps sp) (gd : X.A.guards = some []) (hr : Room k X.A) (hg : Gl X x) (hm : X.mg x = some (.ref f)) (hk : PySem.W.keepIn X.K (.ref f) = true) (hb : KB X.K fd ps m ks pm) (ha : PA X (a :: as) t) (hkw : PK X kws tk) (hes : ∀ b ∈ a :: as, headE b = true)
    (hks : kws.map (·.arg) = ks.map some) (hdb : (x == ("__debug__" : Str)) = false) :
    PE X (.Call (.Name x p) (a :: as) kws pos) (fun σ H Q => t σ H fun vs H1 => tk σ H1 fun zs H2 => vs.length = m ∧ zs.length = ks.length ∧ sp (pm.map fun j => ((vs ++ zs)[j]?).getD .non) H2 Q E0) := by
  refine ⟨fun pins s σ H Q I h => ?_⟩
  refine wpAny_Call_Name_kw (ld_glob I hg hm ?_ hdb)
  obtain ⟨k1, k2, k3⟩ := kw_some pos X.env kws ks hks
  have e1 := headE_star a as X.env (hes a List.mem_cons_self)
  have e2 := stars_plain X.env pos (a :: as) hes
  refine PySem.W.callWith_KW (h₀ := X.base) I.ok.mod.kin hk k1 (thn (ha.run pos pins s σ H _ I h) fun us s1 ⟨vs, H1, I1, r, q⟩ => ?_) (by rw [k2, e2]; rfl) e1
  refine thn (hkw.run pos pins s1 σ H1 _ I1 q) fun ws s2 ⟨zs, H2, I2, rz, l1, l2, q2⟩ => ⟨I2.kIn, ?_⟩
  rw [k3]
  exact gcall F gd hr I2 (hb s2 us ws I2.kIn (r.length ▸ l1) (rz.length ▸ l2)) (pick_vals (r.append rz) pm) q2
theorem g_callk0 {pm : List Nat} (F : FnG X.prog X.w X.K X.mg X.base k f fd ps sp) (gd : X.A.guards = some []) (hr : Room k X.A) (hg : Gl X x) (hm : X.mg x = some (.ref f)) (hk : PySem.W.keepIn X.K (.ref f) = true) (hb : KB X.K fd ps 0 ks pm) (hkw : PK X kws tk)
    (hks : kws.map (·.arg) = ks.map some) (hdb : (x == ("__debug__" : Str)) = false) :
    PE X (.Call (.Name x p) [] kws pos) (fun σ H Q => tk σ H fun zs H2 => zs.length = ks.length ∧ sp (pm.map fun j => (zs[j]?).getD .non) H2 Q E0) := by
  refine ⟨fun pins s σ H Q I h => ?_⟩
  refine wpAny_Call_Name_kw (ld_glob I hg hm ?_ hdb)
  obtain ⟨k1, k2, k3⟩ := kw_some pos X.env kws ks hks
  refine PySem.W.callWith_KW0 (h₀ := X.base) I.ok.mod.kin hk k1 ?_ (by rw [k2]; rfl)
  refine thn (hkw.run pos pins s σ H _ I h) fun ws s2 ⟨zs, H2, I2, rz, l2, q2⟩ => ⟨I2.kIn, ?_⟩
  rw [k3]
  exact gcall F gd hr I2 (hb s2 [] ws I2.kIn rfl (rz.length ▸ l2)) (pick_vals rz pm) q2
end
end Iv
set_option Elab.async false
set_option linter.all false
set_option maxRecDepth 100000
set_option maxHeartbeats 4000000
namespace Iv
open PySem PySem.Spec PyProof.Rows L2
/-! ### slots -/
structure RV (K : PySem.W.Frag) (ρ : List Addr) (H : Hp) (σ : L2.St) (env : Env) : Prop where
  len : σ.length = env.length
  get : ∀ (i : Nat) (d : D), env[i]? = some (some d) → ∃ v, σ[i]? = some (some v) ∧ RD K ρ H v d
section
variable {K : PySem.W.Frag} {ρ ρ' : List Addr} {H H' : Hp} {σ : L2.St} {env : Env}
theorem RV.mono (r : RV K ρ H σ env) (x : Ext ρ ρ' H H') : RV K ρ' H' σ env := ⟨r.len, fun i d e => let ⟨v, h1, h2⟩ := r.get i d e; ⟨v, h1, h2.mono x⟩⟩
theorem RV.set (r : RV K ρ H σ env) {i : Nat} {v : V} {d : D} (hi : i < env.length) (h : RD K ρ H v d) : RV K ρ H (σ.set i (some v)) (env.set i (some d)) := by
  refine ⟨by simp [r.len], fun j e q => ?_⟩
  by_cases hj : i = j
  · subst hj
    rw [List.getElem?_set_self hi] at q
    cases q
    exact ⟨v, List.getElem?_set_self (by rw [r.len]; exact hi), h⟩
  · rw [List.getElem?_set_ne hj] at q
    obtain ⟨u, h1, h2⟩ := r.get j e q
    exact ⟨u, by rw [List.getElem?_set_ne hj]; exact h1, h2⟩
theorem wipeE_len (env : Env) : ∀ vs : List Nat, (wipeE env vs).length = env.length
  | [] => rfl
  | v :: vs => by unfold wipeE; rw [List.length_set, wipeE_len env vs]
theorem wipeE_some {env : Env} {i : Nat} {d : D} : ∀ {vs : List Nat}, (wipeE env vs)[i]? = some (some d) → env[i]? = some (some d) ∧ i ∉ vs
  | [], h => ⟨h, by simp⟩
  | v :: vs, h => by
    unfold wipeE at h
    by_cases hi : v = i
    · subst hi
      rw [List.getElem?_set] at h
      simp at h
    · rw [List.getElem?_set_ne hi] at h
      obtain ⟨h1, h2⟩ := wipeE_some h
      exact ⟨h1, fun z => by rcases List.mem_cons.mp z with z | z; exact hi z.symm; exact h2 z⟩
theorem RV.wipe (r : RV K ρ H σ env) (vs : List Nat) : RV K ρ H (L2.wipe σ vs) (wipeE env vs) := by
  refine ⟨by rw [wipe_length, wipeE_len, r.len], fun i d e => ?_⟩
  obtain ⟨h1, h2⟩ := wipeE_some e
  obtain ⟨v, q1, q2⟩ := r.get i d h1
  exact ⟨v, by rw [wipe_out h2]; exact q1, q2⟩
/-- only these slots differ -/
structure Only (sl : List Nat) (σ σ' : L2.St) : Prop where
  len : σ'.length = σ.length
  out : ∀ i, i ∉ sl → σ'[i]? = σ[i]?
theorem Only.refl (sl : List Nat) (σ : L2.St) : Only sl σ σ := ⟨rfl, fun _ _ => rfl⟩
theorem Only.trans {sl sl' : List Nat} {σ σ' τ : L2.St} (h : Only sl σ σ') (g : Only sl' σ' τ) : Only (sl ++ sl') σ τ :=
  ⟨g.len.trans h.len, fun i hi => (g.out i fun z => hi (List.mem_append_right _ z)).trans (h.out i fun z => hi (List.mem_append_left _ z))⟩
theorem wipe_in {σ : L2.St} {i : Nat} : ∀ {vs : List Nat}, i ∈ vs → i < σ.length → (L2.wipe σ vs)[i]? = some none
  | v :: vs, h, hl => by
    unfold L2.wipe
    by_cases hi : v = i
    · subst hi
      rw [List.getElem?_set_self (by rw [wipe_length]; exact hl)]
    · rw [List.getElem?_set_ne hi]
      exact wipe_in ((List.mem_cons.mp h).resolve_left fun z => hi z.symm) hl
theorem wipe_only {sl vs : List Nat} {σ σ' : L2.St} (h : Only sl (L2.wipe σ vs) σ') (hs : ∀ i ∈ sl, i ∈ vs) : L2.wipe σ' vs = L2.wipe σ vs := by
  apply List.ext_getElem?
  intro i
  have hl : σ'.length = σ.length := by rw [h.len, wipe_length]
  by_cases hi : i ∈ vs
  · by_cases hn : i < σ.length
    · rw [wipe_in hi (by rw [hl]; exact hn), wipe_in hi hn]
    · rw [List.getElem?_eq_none (by rw [wipe_length]; omega), List.getElem?_eq_none (by rw [wipe_length]; omega)]
  · rw [wipe_out hi, h.out i fun z => hi (hs i z)]
end

/-! ### readings -/
section
variable (K : PySem.W.Frag) (g : Cfg)
def tE (e : E) : TE := fun σ H Q => ∃ ρ env st r, RV K ρ H σ env ∧ RS K ρ H st ∧ evE g e env st = some r ∧ Fin K ρ H r.1 r.2 Q
def tT (e : E) : TT := fun σ H Q => ∃ ρ env st r k, RV K ρ H σ env ∧ RS K ρ H st ∧ evE g e env st = some r ∧ asB r.1 = some k ∧ ∀ ρ' H', Ext ρ ρ' H H' → RS K ρ' H' r.2 → Q k H'
def tEs (es : Es) : TA := fun σ H Q => ∃ ρ env st r, RV K ρ H σ env ∧ RS K ρ H st ∧ evEs g es env st = some r ∧ ∀ vs ρ' H', Ext ρ ρ' H H' → RS K ρ' H' r.2 → RDs K ρ' H' vs r.1 → Q vs H'
def tO (o : OE) : L2.St → Hp → (Option Int → Hp → Prop) → Prop := fun σ H Q => ∃ ρ env st r, RV K ρ H σ env ∧ RS K ρ H st ∧ evO g o env st = some r ∧ ∀ ρ' H', Ext ρ ρ' H H' → RS K ρ' H' r.2 → Q r.1 H'
def tTs (cs : Es) : TT := fun σ H Q => ∃ ρ env st r, RV K ρ H σ env ∧ RS K ρ H st ∧ evTs g cs env st = some r ∧ ∀ ρ' H', Ext ρ ρ' H H' → RS K ρ' H' r.2 → Q r.1 H'
def gT (t : T) : TG := fun v σ H Q => ∃ ρ env st d env', RV K ρ H σ env ∧ RS K ρ H st ∧ RD K ρ H v d ∧ asg t d env = some env' ∧ ∀ σ', RV K ρ H σ' env' → Only t.sl σ σ' → Q σ' H
def gTs (ts : Ts) : TGs := fun vs σ H Q => ∃ ρ env st ds env', RV K ρ H σ env ∧ RS K ρ H st ∧ RDs K ρ H vs ds ∧ asgs ts ds env = some env' ∧ ∀ σ', RV K ρ H σ' env' → Only ts.sl σ σ' → Q σ' H
/-- a walk gives the items of src -/
structure WD (J : L2.It) (ρ : List Addr) (H : Hp) (src : Src) : Prop where
  go : ∀ (i : Nat) ρ' H' st, Ext ρ ρ' H H' → RS K ρ' H' st → src.ok st → i < src.items.length → J.go i H'
  stop : ∀ ρ' H' st, Ext ρ ρ' H H' → RS K ρ' H' st → src.ok st → J.stop src.items.length H'
  yld : ∀ (i : Nat) ρ' H' st x H2, Ext ρ ρ' H H' → RS K ρ' H' st → src.ok st → i < src.items.length → J.yld i H' x H2 → ∃ d, src.items[i]? = some d ∧ Ext ρ' ρ' H' H2 ∧ RS K ρ' H2 st ∧ RD K ρ' H2 x d
def tI (it : It) : TI := fun σ H R => ∃ ρ env st r, RV K ρ H σ env ∧ RS K ρ H st ∧ evI g it env st = some r ∧ ∀ J ρ' H', Ext ρ ρ' H H' → RS K ρ' H' r.2 → WD K J ρ' H' r.1 → R J H'
/-- what a def promises -/
def spF (F : Orc) (f : Nat) (ps : List Str) : Sp := fun vs H Q _ => ∃ ρ st ds r, vs.length = ps.length ∧ RS K ρ H st ∧ RDs K ρ H vs ds ∧ F f ds st = some r ∧ Fin K ρ H r.1 r.2 Q
end
/-- a body or a block, as the static look says; calls of level n may be made -/
structure Gd (c : Cs) (g : Cfg) (n : Nat) (X : Cx) : Prop where
  N : X.N = c.N
  sc : X.env.scope = c.sc
  nd : c.N.Nodup
  calm : X.calm = true
  gu : X.A.guards = some []
  room : Room n X.A
  body : c.body = true → ∀ x, X.fn x = true
  xe : X.xe = fun _ _ => False
  fn : ∀ (f : Nat) (x : Str) (ps : List Str), c.fn[f]? = some (x, ps) → ∃ adr fd, X.mg x = some (.ref adr) ∧ PySem.W.keepIn X.K (.ref adr) = true ∧ Binds X.K fd ps [] ∧ FnG X.prog X.w X.K X.mg X.base n adr fd ps (spF X.K g.F f ps) ∧
    ∀ (k : Nat) q, c.kw[k]? = some q → q.1 = f → g.KW k = (f, q.2.2.2) ∧ KB X.K fd ps q.2.1 q.2.2.1 q.2.2.2
  bn : ∀ x ∈ c.bn, X.mg x = none
  gl : ∀ (j : Nat) (x : Str), c.gl[j]? = some x → ∃ u v d, X.mg x = some u ∧ RelV v u ∧ g.G j = some d ∧ ∀ ρ H, RD X.K ρ H v d
section
variable {c : Cs} {g : Cfg} {n : Nat} {X : Cx}
theorem PE.imp {a : Expr} {t t' : TE} (h : PE X a t) (i : ∀ σ H Q, t' σ H Q → t σ H Q) : PE X a t' := ⟨fun pins s σ H Q I q => h.run pins s σ H Q I (i _ _ _ q)⟩
theorem PT.imp {a : Expr} {t t' : TT} (h : PT X a t) (i : ∀ σ H Q, t' σ H Q → t σ H Q) : PT X a t' := ⟨fun pins s σ H Q I q => h.run pins s σ H Q I (i _ _ _ q)⟩
theorem okName_not {x : Str} (h : okName x = true) : (x == ("__debug__" : Str)) = false ∧ (x == ("__classdict__" : Str)) = false ∧ x ≠ "__name__" := by
  unfold okName at h
  simp only [Bool.and_eq_true, Bool.not_eq_true'] at h
  exact ⟨h.1.1, h.1.2, fun z => by have := h.2; rw [z] at this; simp at this⟩
theorem Gd.vis (G : Gd c g n X) {x : Str} (h : Iv.vis c x = true) : Vis X.env.scope x := by
  unfold Iv.vis at h
  rw [← G.sc] at h
  unfold Vis
  split at h
  · left; assumption
  · right; left; assumption
  · right; right; assumption
  · cases h
theorem Gd.glob (G : Gd c g n X) {x : Str} (h : Iv.glob c x = true) : Gl X x := by
  unfold Iv.glob at h
  rw [← G.sc] at h
  split at h
  · assumption
  · cases h
theorem Gd.loc (G : Gd c g n X) {x : Str} (h : store c x = true) : Loc X.env.scope x ∧ (X.fn x = true ∨ X.env.scope.names.lookup x = some .local) := by
  unfold store at h
  rw [← G.sc] at h
  split at h
  · rename_i e
    exact ⟨.inl e, .inr e⟩
  · rename_i e
    exact ⟨.inr e, .inl (G.body h x)⟩
  · cases h
theorem Gd.pre (G : Gd c g n X) {x : Str} (h : Iv.pre c x = true) : Gl X x ∧ X.mg x = none ∧ (x == ("__debug__" : Str)) = false ∧ x ≠ "__name__" := by
  unfold Iv.pre at h
  simp only [Bool.and_eq_true, decide_eq_true_eq] at h
  obtain ⟨a, _, b⟩ := okName_not h.2
  exact ⟨G.glob h.1.1, G.bn x h.1.2, a, b⟩

/-! ### targets -/
theorem assign_len (env : PySem.Env) : ∀ es : List Expr, (assignEach es env).length = es.length
  | [] => rfl
  | e :: es => by cases e <;> exact congrArg Nat.succ (assign_len env es)
theorem assign_cons (env : PySem.Env) (e : Expr) (es : List Expr) (h : headE e = true) : assignEach (e :: es) env = (false, assign e env) :: assignEach es env := by
  cases e <;> first | rfl | (cases h; done)
theorem assign_plain (env : PySem.Env) : ∀ es : List Expr, (∀ e ∈ es, headE e = true) → (assignEach es env).findIdx? (·.1) = none
  | [], _ => rfl
  | e :: es, h => by
    rw [assign_cons env e es (h e List.mem_cons_self), List.findIdx?_cons]
    simp [assign_plain env es fun b hb => h b (List.mem_cons_of_mem _ hb)]
theorem ckTs_head : ∀ {ts : Ts} {es : List Expr}, ckTs c ts es = true → ∀ e ∈ es, headE e = true
  | .nil, [], _, _, h => by cases h
  | .nil, _ :: _, h, _, _ => by simp [ckTs] at h
  | .cons _ _, [], h, _, _ => by simp [ckTs] at h
  | .cons t ts, e :: es, h, b, hb => by
    simp only [ckTs, Bool.and_eq_true] at h
    rcases List.mem_cons.mp hb with rfl | hb
    · exact h.1.1
    · exact ckTs_head h.2 b hb
mutual
theorem sT (G : Gd c g n X) : ∀ (t : T) (a : Expr), ckT c t a = true → PG X a (gT X.K t)
  | .nm i, a, h => by
    simp only [ckT] at h
    split at h
    · rename_i x pos
      simp only [Bool.and_eq_true, decide_eq_true_eq] at h
      obtain ⟨h1, h2⟩ := h
      obtain ⟨l1, l2⟩ := G.loc h2
      have p := pg_name (X := X) (pos := pos) (by rw [G.N]; exact G.nd) (by rw [G.N]; exact h1) l1 l2
      refine ⟨fun pins s σ H v u Q I r q => p.run pins s σ H v u Q I r ?_⟩
      obtain ⟨ρ, env, st, d, env', hv, hs, hd, e, f⟩ := q
      simp only [asg] at e
      split at e
      · rename_i hi
        cases e
        exact f _ (hv.set hi hd) ⟨by simp, fun j hj => List.getElem?_set_ne fun z => hj (by rw [z]; exact List.mem_singleton.mpr rfl)⟩
      · cases e
    · cases h
  | .tp ts, a, h => by
    simp only [ckT] at h
    split at h
    · rename_i es k pos
      have p := pg_tup (X := X) (k := k) (pos := pos) G.calm (sTs G ts es h) rfl (assign_plain X.env es (ckTs_head h))
      refine ⟨fun pins s σ H v u Q I r q => p.run pins s σ H v u Q I r ?_⟩
      obtain ⟨ρ, env, st, d, env', hv, hs, hd, e, f⟩ := q
      cases d with
      | tup ds =>
        cases hd with
        | tup q1 q2 =>
          have e' : asgs ts ds env = some env' := e
          exact ⟨_, _, rfl, q1, by rw [assign_len, q2.length]; exact asgs_len h e', ρ, env, st, ds, env', hv, hs, q2, e', f⟩
      | non => simp [asg] at e
      | bl _ => simp [asg] at e
      | int _ => simp [asg] at e
      | str _ => simp [asg] at e
      | rol _ => simp [asg] at e
      | loc _ => simp [asg] at e
    · cases h
theorem sTs (G : Gd c g n X) : ∀ (ts : Ts) (es : List Expr), ckTs c ts es = true → PGs X es (gTs X.K ts)
  | .nil, es, h => by
    simp only [ckTs] at h
    split at h
    · refine ⟨fun pins s σ H vs us Q I r q => pgs_nil.run pins s σ H vs us Q I r ?_⟩
      obtain ⟨ρ, env, st, ds, env', hv, hs, hd, e, f⟩ := q
      cases ds with
      | nil =>
        cases hd
        simp only [asgs, Option.some.injEq] at e
        subst e
        exact ⟨rfl, f σ hv (Only.refl _ _)⟩
      | cons _ _ => simp [asgs] at e
    · cases h
  | .cons t ts, es, h => by
    simp only [ckTs] at h
    split at h
    · rename_i a as
      simp only [Bool.and_eq_true] at h
      have p := pgs_cons (X := X) (sT G t a h.1.2) (sTs G ts as h.2) (by rw [assign_cons X.env a as h.1.1]; rfl)
      refine ⟨fun pins s σ H vs us Q I r q => p.run pins s σ H vs us Q I r ?_⟩
      obtain ⟨ρ, env, st, ds, env', hv, hs, hd, e, f⟩ := q
      cases ds with
      | nil => simp [asgs] at e
      | cons d ds =>
        cases hd with
        | cons d1 d2 =>
          simp only [asgs] at e
          obtain ⟨e1, a1, a2⟩ := Option.bind_eq_some_iff.mp e
          exact ⟨_, _, rfl, ρ, env, st, d, e1, hv, hs, d1, a1, fun σ1 hv1 o1 => ⟨ρ, e1, st, ds, env', hv1, hs, d2, a2, fun σ2 hv2 o2 => f σ2 hv2 (o1.trans o2)⟩⟩
    · cases h
theorem asgs_len : ∀ {ts : Ts} {es : List Expr} {ds : List D} {env env' : Env}, ckTs c ts es = true → asgs ts ds env = some env' → ds.length = es.length
  | .nil, [], [], _, _, _, _ => rfl
  | .nil, [], _ :: _, _, _, _, e => by simp [asgs] at e
  | .nil, _ :: _, _, _, _, h, _ => by simp [ckTs] at h
  | .cons _ _, [], _, _, _, h, _ => by simp [ckTs] at h
  | .cons _ _, _ :: _, [], _, _, _, e => by simp [asgs] at e
  | .cons t ts, e :: es, d :: ds, _, _, h, q => by
    simp only [ckTs, Bool.and_eq_true] at h
    simp only [asgs] at q
    obtain ⟨e1, _, a2⟩ := Option.bind_eq_some_iff.mp q
    exact congrArg Nat.succ (asgs_len h.2 a2)
end
end
end Iv
set_option Elab.async false
set_option linter.all false
set_option maxRecDepth 100000
set_option maxHeartbeats 8000000
namespace Iv
open PySem PySem.Spec PyProof.Rows L2
section
variable {c : Cs} {g : Cfg} {n : Nat} {X : Cx}
theorem PE.rd {a : Expr} {t : TE} {e : E} (h : PE X a t) (i : ∀ σ H Q ρ env st r, RV X.K ρ H σ env → RS X.K ρ H st → evE g e env st = some r → Fin X.K ρ H r.1 r.2 Q → t σ H Q) : PE X a (tE X.K g e) :=
  PE.imp h fun σ H Q ⟨ρ, env, st, r, hv, hs, e1, f⟩ => i σ H Q ρ env st r hv hs e1 f
theorem ckEs_head : ∀ {es : Es} {as : List Expr}, ckEs c es as = true → ∀ a ∈ as, headE a = true
  | .nil, [], _, _, h => by cases h
  | .nil, _ :: _, h, _, _ => by simp [ckEs] at h
  | .cons _ _, [], h, _, _ => by simp [ckEs] at h
  | .cons e es, a :: as, h, b, hb => by
    simp only [ckEs, Bool.and_eq_true] at h
    rcases List.mem_cons.mp hb with rfl | hb
    · exact h.1.1
    · exact ckEs_head h.2 b hb
theorem ckEs_len : ∀ {es : Es} {as : List Expr} {env : Env} {st : Sto} {r : List D × Sto}, ckEs c es as = true → evEs g es env st = some r → r.1.length = as.length
  | .nil, [], _, _, _, _, e => by simp [evEs] at e; subst e; rfl
  | .nil, _ :: _, _, _, _, h, _ => by simp [ckEs] at h
  | .cons _ _, [], _, _, _, h, _ => by simp [ckEs] at h
  | .cons e es, a :: as, env, st, r, h, q => by
    simp only [ckEs, Bool.and_eq_true] at h
    simp only [evEs] at q
    obtain ⟨r1, _, q2⟩ := Option.bind_eq_some_iff.mp q
    obtain ⟨r2, q3, rfl⟩ := Option.map_eq_some_iff.mp q2
    exact congrArg Nat.succ (ckEs_len h.2 q3)
theorem ckKs_len : ∀ {es : Es} {as : List Keyword} {env : Env} {st : Sto} {r : List D × Sto}, ckKs c es as = true → evEs g es env st = some r → r.1.length = as.length
  | .nil, [], _, _, _, _, e => by simp [evEs] at e; subst e; rfl
  | .nil, _ :: _, _, _, _, h, _ => by simp [ckKs] at h
  | .cons _ _, [], _, _, _, h, _ => by simp [ckKs] at h
  | .cons e es, ⟨none, _, _⟩ :: as, _, _, _, h, _ => by simp [ckKs] at h
  | .cons e es, ⟨some _, a, _⟩ :: as, env, st, r, h, q => by
    simp only [ckKs, Bool.and_eq_true] at h
    simp only [evEs] at q
    obtain ⟨r1, _, q2⟩ := Option.bind_eq_some_iff.mp q
    obtain ⟨r2, q3, rfl⟩ := Option.map_eq_some_iff.mp q2
    exact congrArg Nat.succ (ckKs_len h.2 q3)
theorem attr_base {o : Expr} {nm : Str} {env : PySem.Env} (h : callE o = false) : attributeBase o nm env (eval o env) = eval o env := by
  cases o <;> first | rfl | (cases h; done)
theorem plain_ix {b : Expr} (h : headE b = true) : PlainIx b := by
  intro o i
  cases b <;> first | rfl | (cases h; done)
theorem no_marks {op : CmpOp} {b : Expr} (h : headE b = true) : behindInMarks op b = false := by
  cases b <;> first | rfl | (cases h; done)
theorem no_last {op op' : CmpOp} {a b : Expr} (h : headE b = true) : lastMarks [op, op'] [a, b] = false := by
  show behindInMarks op' b = false
  exact no_marks h
theorem fold_it {a : Expr} {env : PySem.Env} (h : compI a = true) (x : Value) : foldedSetIterable a env x = pure x := by
  cases a <;> first | rfl | (cases h; done)
theorem headE_compI {a : Expr} (h : headE a = true) : compI a = true := by
  cases a <;> first | rfl | (cases h; done)
/-- as a test: what is no and, or, not, comparison, choice -/
theorem PT.val {a : Expr} {e : E} (h : PE X a (tE X.K g e)) (he : ∀ whole, isTrue a X.env whole = (do let v ← whole; standAt a.pos; holding [v] (truthy v))) : PT X a (tT X.K g e) := by
  refine PT.imp (pt_val h he) fun σ H Q ⟨ρ, env, st, r, k, hv, hs, e1, e2, f⟩ => ?_
  refine ⟨ρ, env, st, r, hv, hs, e1, fun v ρ' H' x s d => ?_⟩
  unfold asB at e2
  split at e2
  · rename_i b eb
    cases e2
    rw [eb] at d
    cases d
    exact ⟨_, rfl, f ρ' H' x s⟩
  · cases e2
theorem bl_of {K : PySem.W.Frag} {ρ : List Addr} {H : Hp} {d : D} {v : V} {k : Bool} (h : RD K ρ H v d) (e : asB d = some k) : v = .bl k := by
  unfold asB at e
  split at e
  · cases e; cases h; rfl
  · cases e
end
section
variable {c : Cs} {g : Cfg} {n : Nat} {X : Cx}
/-- a comprehension's reading -/
theorem lc_read {elt : E} {t : T} {it : Iv.It} {cs : Es} {own : List Nat} {wi : TI} {gg : TG} {tt : TT} {te : TE} (hwi : ∀ σ H R, tI X.K g it σ H R → wi σ H R) (hgg : ∀ v σ H Q, gT X.K t v σ H Q → gg v σ H Q) (htt : ∀ σ H Q, tTs X.K g cs σ H Q → tt σ H Q) (hte : ∀ σ H Q, tE X.K g elt σ H Q → te σ H Q) (hsl : ∀ i ∈ t.sl, i ∈ own) :
    ∀ σ H Q, tE X.K g (.lc elt t it cs own) σ H Q → tLc wi gg tt te own σ H Q := by
  intro σ H Q ⟨ρ, env, st, r, hv, hs, e, f⟩
  simp only [evE] at e
  obtain ⟨r1, e1, e2⟩ := Option.bind_eq_some_iff.mp e
  obtain ⟨stF, e3, rfl⟩ := Option.map_eq_some_iff.mp e2
  refine hwi σ H _ ⟨ρ, env, st, r1, hv, hs, e1, fun J ρ1 H1 x1 s1 wd => ?_⟩
  intro A hA
  obtain ⟨sN, xN⟩ := s1.newL hA .nil
  have atA : (ρ1 ++ [A])[r1.2.length]? = some A := by
    rw [← s1.len, List.getElem?_append_right (Nat.le_refl _), Nat.sub_self]; rfl
  generalize hone : (fun (x : D) (s : Sto) => (asg t x (wipeE env own)).bind fun e => (evTs g cs e s).bind fun q => if q.1 = true then (evE g elt e q.2).map fun p => (some p.1, p.2) else some (none, q.2)) = one at e3
  refine ⟨fun i m H' => m = r1.1.items.length - i ∧ i ≤ r1.1.items.length ∧ ∃ ρ' st', Ext (ρ1 ++ [A]) ρ' (upd H1 A (.lst [])) H' ∧ RS X.K ρ' H' st' ∧ lcL one r1.1 r1.2.length (r1.1.items.drop i) st' = some stF, ⟨_, rfl, Nat.zero_le _, ρ1 ++ [A], r1.2 ++ [.lst []], Ext.refl _ _, sN, by rw [List.drop_zero]; exact e3⟩, ?_⟩
  rintro i m H' ⟨rfl, hi, ρ', st', x', s', e'⟩
  have xx : Ext ρ1 ρ' H1 H' := xN.trans x'
  by_cases hlt : i < r1.1.items.length
  · rw [List.drop_eq_getElem_cons hlt] at e'
    simp only [lcL] at e'
    split at e'
    · rename_i ok
      obtain ⟨q, eq, eq2⟩ := Option.bind_eq_some_iff.mp e'
      refine .inr ⟨wd.go i ρ' H' st' xx s' ok hlt, fun H'' => i + 1 ≤ r1.1.items.length ∧ ∃ ρ'' st'', Ext (ρ1 ++ [A]) ρ'' (upd H1 A (.lst [])) H'' ∧ RS X.K ρ'' H'' st'' ∧ lcL one r1.1 r1.2.length (r1.1.items.drop (i + 1)) st'' = some stF, fun H'' ⟨h1, h2⟩ => ⟨_, by omega, rfl, h1, h2⟩, fun y H2 hy => ?_⟩
      obtain ⟨d, ed, xd, sd, rd⟩ := wd.yld i ρ' H' st' y H2 xx s' ok hlt hy
      have ed' : r1.1.items[i] = d := by rw [List.getElem?_eq_getElem hlt] at ed; exact Option.some.inj ed
      rw [ed', ← hone] at eq
      obtain ⟨ea, q1, q2⟩ := Option.bind_eq_some_iff.mp eq
      obtain ⟨qt, q3, q4⟩ := Option.bind_eq_some_iff.mp q2
      have hv2 := ((hv.mono (x1.trans xx)).mono xd).wipe own
      refine hgg _ _ _ _ ⟨ρ', wipeE env own, st', d, ea, hv2, sd, rd, q1, fun σ2 hv3 o3 => ⟨wipe_only o3 hsl, htt _ _ _ ⟨ρ', ea, st', qt, hv3, sd, q3, fun ρ3 H3 x3 s3 => ?_⟩⟩⟩
      cases hb : qt.1 with
      | true =>
        rw [hb, if_pos rfl] at q4
        rw [if_pos rfl]
        obtain ⟨p, q5, rfl⟩ := Option.map_eq_some_iff.mp q4
        refine hte _ _ _ ⟨ρ3, ea, qt.2, p, hv3.mono x3, s3, q5, fun w ρ4 H4 x4 s4 d4 => ?_⟩
        simp only at eq2
        split at eq2
        · rename_i acc hacc
          split at eq2
          · rename_i hz
            have at4 : ρ4[r1.2.length]? = some A := pre_get (x'.trans (xd.trans (x3.trans x4))).pre atA
            obtain ⟨vs, hvs, qvs⟩ := s4.lst hacc at4
            have w4 := s4.putL hacc at4 (qvs.append (.cons d4 .nil))
            exact ⟨vs, hvs, by rw [qvs.length]; exact hz, hlt, ρ4, _, (x'.trans (xd.trans (x3.trans (x4.trans w4.2)))), w4.1, eq2⟩
          · cases eq2
        · cases eq2
      | false =>
        rw [hb, if_neg Bool.false_ne_true] at q4
        cases q4
        rw [if_neg Bool.false_ne_true]
        exact ⟨hlt, ρ3, _, x'.trans (xd.trans x3), s3, eq2⟩
    · cases e'
  · have ei : i = r1.1.items.length := by omega
    subst ei
    rw [List.drop_length] at e'
    simp only [lcL] at e'
    split at e'
    · rename_i ok
      cases e'
      exact .inl ⟨wd.stop ρ' H' _ xx s' ok, f _ ρ' H' (x1.trans xx) s' (.loc (pre_get x'.pre atA))⟩
    · cases e'
end
end Iv
set_option Elab.async false
set_option linter.all false
set_option maxRecDepth 100000
set_option maxHeartbeats 8000000
namespace Iv
open PySem PySem.Spec PyProof.Rows L2
section
variable {c : Cs} {g : Cfg} {n : Nat} {X : Cx} {K : PySem.W.Frag}
/-! ### walks -/
theorem rangeD_len : ∀ (n : Nat) (lo : Int), (rangeD lo n).length = n
  | 0, _ => rfl
  | n + 1, lo => congrArg Nat.succ (rangeD_len n (lo + 1))
theorem rangeD_get : ∀ (n : Nat) (lo : Int) (i : Nat), i < n → (rangeD lo n)[i]? = some (.int (lo + i))
  | 0, _, i, h => absurd h (Nat.not_lt_zero i)
  | n + 1, lo, 0, _ => by simp [rangeD]
  | n + 1, lo, i + 1, h => by
    have q := rangeD_get n (lo + 1) i (by omega)
    show (rangeD (lo + 1) n)[i]? = _
    rw [q]
    congr 2
    omega
theorem enumD_len : ∀ (xs : List D) (k : Nat), (enumD k xs).length = xs.length
  | [], _ => rfl
  | _ :: xs, k => congrArg Nat.succ (enumD_len xs (k + 1))
theorem enumD_get : ∀ (xs : List D) (k i : Nat) (d : D), xs[i]? = some d → (enumD k xs)[i]? = some (.tup [.int ((k + i : Nat) : Int), d])
  | [], _, _, _, h => by simp at h
  | x :: xs, k, 0, d, h => by simp at h; subst h; rfl
  | x :: xs, k, i + 1, d, h => by
    have q := enumD_get xs (k + 1) i d (by simpa using h)
    show (enumD (k + 1) xs)[i]? = _
    rw [q]
    congr 5
    omega
theorem zipD_len : ∀ (xs ys : List D), (zipD xs ys).length = min xs.length ys.length
  | [], _ => by simp [zipD]
  | _ :: _, [] => by simp [zipD]
  | _ :: xs, _ :: ys => by simp [zipD, zipD_len xs ys, Nat.succ_min_succ]
theorem zipD_get : ∀ (xs ys : List D) (i : Nat) (d e : D), xs[i]? = some d → ys[i]? = some e → (zipD xs ys)[i]? = some (.tup [d, e])
  | [], _, _, _, _, h, _ => by simp at h
  | _ :: _, [], _, _, _, _, h => by simp at h
  | x :: xs, y :: ys, 0, d, e, h1, h2 => by simp at h1 h2; subst h1 h2; rfl
  | x :: xs, y :: ys, i + 1, d, e, h1, h2 => zipD_get xs ys i d e (by simpa using h1) (by simpa using h2)
theorem wd_tup {ρ : List Addr} {H : Hp} {a : Addr} {vs : List V} {ds : List D} (hq : SqT K H a vs) (hd : RDs K ρ H vs ds) : WD K (Itt K a) ρ H ⟨ds, none⟩ where
  go := fun i ρ' H' st x _ _ hi => ⟨vs, vs[i]'(by rw [hd.length]; exact hi), x.tk.seq hq, List.getElem?_eq_getElem _⟩
  stop := fun ρ' H' st x _ _ => ⟨vs, x.tk.seq hq, Nat.le_of_eq hd.length⟩
  yld := fun i ρ' H' st y H2 x s _ hi ⟨e, hy⟩ => by
    subst e
    obtain ⟨d, e1, e2⟩ := hd.getV (hy vs (x.tk.seq hq))
    exact ⟨d, e1, Ext.refl _ _, s, e2.mono x⟩
theorem wd_rol {ρ : List Addr} {H : Hp} {a : Addr} {vs : List V} {ds : List D} (hq : (∃ o, H a = some (.frz o (.lst vs))) ∨ ∀ H', SqL K H' a vs) (hd : RDs K ρ H vs ds) : WD K (Itl K a) ρ H ⟨ds, none⟩ := by
  have hk : ∀ {ρ' H'}, Ext ρ ρ' H H' → SqL K H' a vs := fun x => hq.elim (fun ⟨o, e⟩ => .inl (.inr ⟨o, x.tk _ _ e trivial⟩)) fun z => z _
  exact {
    go := fun i ρ' H' st x _ _ hi => ⟨vs, vs[i]'(by rw [hd.length]; exact hi), hk x, List.getElem?_eq_getElem _⟩
    stop := fun ρ' H' st x _ _ => ⟨vs, hk x, Nat.le_of_eq hd.length⟩
    yld := fun i ρ' H' st y H2 x s _ hi ⟨e, hy⟩ => by
      subst e
      obtain ⟨d, e1, e2⟩ := hd.getV (hy vs (hk x))
      exact ⟨d, e1, Ext.refl _ _, s, e2.mono x⟩ }
theorem wd_loc {ρ : List Addr} {H : Hp} {a : Addr} {m : Nat} {ds : List D} (ha : ρ[m]? = some a) : WD K (Itl K a) ρ H ⟨ds, some (m, ds)⟩ := by
  have hk : ∀ {ρ' H' st}, Ext ρ ρ' H H' → RS K ρ' H' st → (Src.mk ds (some (m, ds))).ok st → ∃ vs, H' a = some (.lst vs) ∧ RDs K ρ' H' vs ds := fun x s ok => s.lst (ok m ds rfl) (pre_get x.pre ha)
  exact {
    go := fun i ρ' H' st x s ok hi => by
      obtain ⟨vs, q1, q2⟩ := hk x s ok
      exact ⟨vs, vs[i]'(by rw [q2.length]; exact hi), SqL.of q1, List.getElem?_eq_getElem _⟩
    stop := fun ρ' H' st x s ok => by
      obtain ⟨vs, q1, q2⟩ := hk x s ok
      exact ⟨vs, SqL.of q1, Nat.le_of_eq q2.length⟩
    yld := fun i ρ' H' st y H2 x s ok hi ⟨e, hy⟩ => by
      subst e
      obtain ⟨vs, q1, q2⟩ := hk x s ok
      obtain ⟨d, e1, e2⟩ := q2.getV (hy vs (SqL.of q1))
      exact ⟨d, e1, Ext.refl _ _, s, e2⟩ }
theorem wd_str {ρ : List Addr} {H : Hp} {z : Str} : WD K (Its z) ρ H ⟨z.cps.toList.map fun c => .str ⟨#[c]⟩, none⟩ where
  go := fun i ρ' H' st x _ _ hi => by simpa [Its] using hi
  stop := fun ρ' H' st x _ _ => by simp [Its]
  yld := fun i ρ' H' st y H2 x s _ hi ⟨e, c, hc, ey⟩ => by
    subst e ey
    exact ⟨.str ⟨#[c]⟩, by simp [hc], Ext.refl _ _, s, .str _⟩
theorem wd_rng {ρ : List Addr} {H : Hp} {lo : Int} {k : Nat} : WD K (Itr lo k) ρ H ⟨rangeD lo k, none⟩ where
  go := fun i ρ' H' st x _ _ hi => by rw [show (rangeD lo k).length = k from rangeD_len k lo] at hi; exact hi
  stop := fun ρ' H' st x _ _ => Nat.le_of_eq (rangeD_len k lo).symm
  yld := fun i ρ' H' st y H2 x s _ hi ⟨e, ey⟩ => by
    subst e ey
    rw [show (rangeD lo k).length = k from rangeD_len k lo] at hi
    exact ⟨_, rangeD_get k lo i hi, Ext.refl _ _, s, .int _⟩
theorem pair_new {ρ : List Addr} {H : Hp} {st : Sto} (s : RS K ρ H st) {p : Addr} (hp : H p = none) {v w : V} {d e : D} (h1 : RD K ρ H v d) (h2 : RD K ρ H w e) :
    Ext ρ ρ H (upd H p (.tup [v, w])) ∧ RS K ρ (upd H p (.tup [v, w])) st ∧ RD K ρ (upd H p (.tup [v, w])) (.ref p) (.tup [d, e]) :=
  have x : Ext ρ ρ H (upd H p (.tup [v, w])) := ⟨List.prefix_refl _, Tk.new hp⟩
  ⟨x, s.skip hp _, .tup (SqT.of upd_same) (.cons (h1.mono x) (.cons (h2.mono x) .nil))⟩
theorem wd_enuT {ρ : List Addr} {H : Hp} {a : Addr} {vs : List V} {ds : List D} (hq : SqT K H a vs) (hd : RDs K ρ H vs ds) : WD K (ItE K a) ρ H ⟨enumD 0 ds, none⟩ where
  go := fun i ρ' H' st x _ _ hi => ⟨vs, vs[i]'(by rw [hd.length]; rw [enumD_len] at hi; exact hi), x.tk.seq hq, List.getElem?_eq_getElem _⟩
  stop := fun ρ' H' st x _ _ => ⟨vs, x.tk.seq hq, by rw [enumD_len]; exact Nat.le_of_eq hd.length⟩
  yld := fun i ρ' H' st y H2 x s _ hi ⟨T, w, e1, hT, e2, hy⟩ => by
    subst e1 e2
    obtain ⟨d, e3, e4⟩ := hd.getV (hy vs (x.tk.seq hq))
    have q := enumD_get ds 0 i d e3
    rw [Nat.zero_add] at q
    obtain ⟨p1, p2, p3⟩ := pair_new s hT (.int (i : Nat)) (e4.mono x)
    exact ⟨_, q, p1, p2, p3⟩
theorem wd_enuL {ρ : List Addr} {H : Hp} {a : Addr} {m : Nat} {ds : List D} (ha : ρ[m]? = some a) : WD K (Ite K a) ρ H ⟨enumD 0 ds, some (m, ds)⟩ := by
  have hk : ∀ {ρ' H' st}, Ext ρ ρ' H H' → RS K ρ' H' st → (Src.mk (enumD 0 ds) (some (m, ds))).ok st → ∃ vs, H' a = some (.lst vs) ∧ RDs K ρ' H' vs ds := fun x s ok => s.lst (ok m ds rfl) (pre_get x.pre ha)
  exact {
    go := fun i ρ' H' st x s ok hi => by
      obtain ⟨vs, q1, q2⟩ := hk x s ok
      exact ⟨vs, vs[i]'(by rw [q2.length]; rw [enumD_len] at hi; exact hi), SqL.of q1, List.getElem?_eq_getElem _⟩
    stop := fun ρ' H' st x s ok => by
      obtain ⟨vs, q1, q2⟩ := hk x s ok
      exact ⟨vs, SqL.of q1, by rw [enumD_len]; exact Nat.le_of_eq q2.length⟩
    yld := fun i ρ' H' st y H2 x s ok hi ⟨T, w, e1, hT, e2, hy⟩ => by
      subst e1 e2
      obtain ⟨vs, q1, q2⟩ := hk x s ok
      obtain ⟨d, e3, e4⟩ := q2.getV (hy vs (SqL.of q1))
      have q := enumD_get ds 0 i d e3
      rw [Nat.zero_add] at q
      obtain ⟨p1, p2, p3⟩ := pair_new s hT (.int (i : Nat)) e4
      exact ⟨_, q, p1, p2, p3⟩ }
theorem wd_zip {ρ : List Addr} {H : Hp} {a b : Addr} {vs us : List V} {ds es : List D} (hq : SqT K H a vs) (hd : RDs K ρ H vs ds) (hq2 : SqT K H b us) (hd2 : RDs K ρ H us es) : WD K (RZ.ItzT K a b) ρ H ⟨zipD ds es, none⟩ where
  go := fun i ρ' H' st x _ _ hi => by
    rw [show (zipD ds es).length = min ds.length es.length from zipD_len ds es] at hi
    exact ⟨vs, us, vs[i]'(by rw [hd.length]; omega), us[i]'(by rw [hd2.length]; omega), x.tk.seq hq, x.tk.seq hq2, List.getElem?_eq_getElem _, List.getElem?_eq_getElem _⟩
  stop := fun ρ' H' st x _ _ => ⟨vs, us, x.tk.seq hq, x.tk.seq hq2, by
    rw [show (zipD ds es).length = min ds.length es.length from zipD_len ds es, hd.length, hd2.length]; omega⟩
  yld := fun i ρ' H' st y H2 x s _ hi ⟨T, v, w, e1, hT, e2, hy, hz⟩ => by
    subst e1 e2
    obtain ⟨d, e3, e4⟩ := hd.getV (hy vs (x.tk.seq hq))
    obtain ⟨d2, e5, e6⟩ := hd2.getV (hz us (x.tk.seq hq2))
    obtain ⟨p1, p2, p3⟩ := pair_new s hT (e4.mono x) (e6.mono x)
    exact ⟨_, zipD_get ds es i d d2 e3 e5, p1, p2, p3⟩

/-! ### pieces of readings -/
theorem and_read {a b : E} {tb : TE} (hb : ∀ σ H Q, tE K g b σ H Q → tb σ H Q) : ∀ σ H Q, tE K g (.and a b) σ H Q → tAndV (tE K g a) tb σ H Q := by
  intro σ H Q ⟨ρ, env, st, r, hv, hs, e, f⟩
  simp only [evE] at e
  obtain ⟨r1, e1, e2⟩ := Option.bind_eq_some_iff.mp e
  obtain ⟨k, e3, e4⟩ := Option.bind_eq_some_iff.mp e2
  refine ⟨ρ, env, st, r1, hv, hs, e1, fun v ρ1 H1 x1 s1 d1 => ⟨k, bl_of d1 e3, ?_⟩⟩
  cases k with
  | true =>
    rw [if_pos rfl] at e4 ⊢
    exact hb _ _ _ ⟨ρ1, env, r1.2, r, hv.mono x1, s1, e4, f.weak x1⟩
  | false =>
    rw [if_neg Bool.false_ne_true] at e4 ⊢
    cases e4
    exact f _ ρ1 H1 x1 s1 (.bl _)
theorem or_read {a b : E} {tb : TE} (hb : ∀ σ H Q, tE K g b σ H Q → tb σ H Q) : ∀ σ H Q, tE K g (.or a b) σ H Q → tOrV (tE K g a) tb σ H Q := by
  intro σ H Q ⟨ρ, env, st, r, hv, hs, e, f⟩
  simp only [evE] at e
  obtain ⟨r1, e1, e2⟩ := Option.bind_eq_some_iff.mp e
  obtain ⟨k, e3, e4⟩ := Option.bind_eq_some_iff.mp e2
  refine ⟨ρ, env, st, r1, hv, hs, e1, fun v ρ1 H1 x1 s1 d1 => ⟨k, bl_of d1 e3, ?_⟩⟩
  cases k with
  | true =>
    rw [if_pos rfl] at e4 ⊢
    cases e4
    exact f _ ρ1 H1 x1 s1 (.bl _)
  | false =>
    rw [if_neg Bool.false_ne_true] at e4 ⊢
    exact hb _ _ _ ⟨ρ1, env, r1.2, r, hv.mono x1, s1, e4, f.weak x1⟩
theorem and_readT {a b : E} {tb : TT} (hb : ∀ σ H Q, tT K g b σ H Q → tb σ H Q) : ∀ σ H Q, tT K g (.and a b) σ H Q → tAnd (tT K g a) tb σ H Q := by
  intro σ H Q ⟨ρ, env, st, r, k0, hv, hs, e, ek, f⟩
  simp only [evE] at e
  obtain ⟨r1, e1, e2⟩ := Option.bind_eq_some_iff.mp e
  obtain ⟨k, e3, e4⟩ := Option.bind_eq_some_iff.mp e2
  refine ⟨ρ, env, st, r1, k, hv, hs, e1, e3, fun ρ1 H1 x1 s1 => ?_⟩
  cases k with
  | true =>
    rw [if_pos rfl] at e4 ⊢
    exact hb _ _ _ ⟨ρ1, env, r1.2, r, k0, hv.mono x1, s1, e4, ek, fun ρ2 H2 x2 s2 => f ρ2 H2 (x1.trans x2) s2⟩
  | false =>
    rw [if_neg Bool.false_ne_true] at e4 ⊢
    cases e4
    cases ek
    exact f ρ1 H1 x1 s1
theorem or_readT {a b : E} {tb : TT} (hb : ∀ σ H Q, tT K g b σ H Q → tb σ H Q) : ∀ σ H Q, tT K g (.or a b) σ H Q → tOr (tT K g a) tb σ H Q := by
  intro σ H Q ⟨ρ, env, st, r, k0, hv, hs, e, ek, f⟩
  simp only [evE] at e
  obtain ⟨r1, e1, e2⟩ := Option.bind_eq_some_iff.mp e
  obtain ⟨k, e3, e4⟩ := Option.bind_eq_some_iff.mp e2
  refine ⟨ρ, env, st, r1, k, hv, hs, e1, e3, fun ρ1 H1 x1 s1 => ?_⟩
  cases k with
  | true =>
    rw [if_pos rfl] at e4 ⊢
    cases e4
    cases ek
    exact f ρ1 H1 x1 s1
  | false =>
    rw [if_neg Bool.false_ne_true] at e4 ⊢
    exact hb _ _ _ ⟨ρ1, env, r1.2, r, k0, hv.mono x1, s1, e4, ek, fun ρ2 H2 x2 s2 => f ρ2 H2 (x1.trans x2) s2⟩
theorem pick_rds {ρ : List Addr} {H : Hp} {vs : List V} {ds : List D} (r : RDs K ρ H vs ds) : ∀ pm : List Nat, RDs K ρ H (pm.map fun j => (vs[j]?).getD .non) (pm.map fun j => (ds[j]?).getD .non)
  | [] => .nil
  | j :: pm => by
    refine .cons ?_ (pick_rds r pm)
    show RD K ρ H ((vs[j]?).getD V.non) ((ds[j]?).getD D.non)
    cases e : ds[j]? with
    | none =>
      have : vs[j]? = none := List.getElem?_eq_none (by rw [r.length]; exact List.getElem?_eq_none_iff.mp e)
      rw [this]; exact .non
    | some d =>
      obtain ⟨v, e2, q⟩ := r.get e
      rw [e2]; exact q
end
end Iv
set_option Elab.async false
set_option linter.all false
set_option maxRecDepth 100000
set_option maxHeartbeats 16000000
namespace Iv
open PySem PySem.Spec PyProof.Rows L2
theorem few_args {a : Expr} {pos : Pos} {env : PySem.Env} (h : headE a = true) : ((backTo pos (starEach [a] env)).all (fun x => !x.1) && (backToKw pos (keywordEach [] env)).all (fun x => x.1.isSome)
    && decide ([a].length + ([] : List Keyword).length + (if ([] : List Keyword).isEmpty then 0 else 1) < 30)) = true := by
  rw [headE_star a [] env h]; rfl
/-- the context of a comprehension's block -/
theorem Gd.blk {c : Cs} {g : Cfg} {n : Nat} {X : Cx} (G : Gd c g n X) (s : Shared) (H : Hp) (scope : Scope) (C : Addr) (cl : List (Str × Addr)) (fp : List Addr) :
    Gd { c with sc := relS scope c.sc, body := false } g n (X.blk s H scope (compEnvC scope cl C X.env) fp) where
  N := G.N
  sc := by rw [← G.sc]; rfl
  nd := G.nd
  calm := G.calm
  gu := G.gu
  room := G.room
  body := fun z => by cases z
  xe := rfl
  fn := G.fn
  bn := G.bn
  gl := G.gl
theorem calm_hu {c : Cs} {g : Cfg} {n : Nat} {X : Cx} (G : Gd c g n X) : X.A.units + 64 < cLine ∧ X.A.units + 200 < cLine := ⟨G.room.units, by have := G.room.un; omega⟩
mutual
theorem sP {c : Cs} {g : Cfg} {n : Nat} {X : Cx} (G : Gd c g n X) : ∀ (e : E) (a : Expr), ckE c e a = true → PE X a (tE X.K g e) ∧ (tst e = true → PT X a (tT X.K g e))
  | .var i, a, h => by
    simp only [ckE] at h
    split at h
    · rename_i x pos
      simp only [Bool.and_eq_true, decide_eq_true_eq] at h
      obtain ⟨o1, o2, _⟩ := okName_not h.2
      have p := PE.rd (g := g) (e := .var i) (pe_var (X := X) (pos := pos) (by rw [G.N]; exact h.1.1) (G.vis h.1.2) o1 o2) (fun σ H Q ρ env st r hv hs e f => by
        simp only [evE] at e
        obtain ⟨d, e1, rfl⟩ := Option.map_eq_some_iff.mp e
        obtain ⟨o, e2, e3⟩ := Option.join_eq_some_iff.mp e1 |> fun z => (⟨_, z, rfl⟩ : ∃ o, env[i]? = some o ∧ o = some d)
        subst e3
        obtain ⟨v, q1, q2⟩ := hv.get i d e2
        exact ⟨v, q1, f.here hs q2⟩)
      exact ⟨p, fun _ => PT.val p fun _ => rfl⟩
    · cases h
  | .glb j, a, h => by
    simp only [ckE] at h
    split at h
    · rename_i x pos
      simp only [Bool.and_eq_true, decide_eq_true_eq] at h
      obtain ⟨o1, o2, _⟩ := okName_not h.2
      obtain ⟨u, v, d, m1, m2, m3, m4⟩ := G.gl j x h.1.1
      have p := PE.rd (g := g) (e := .glb j) (pe_glob (X := X) (pos := pos) (G.glob h.1.2) m1 m2 o1) (fun σ H Q ρ env st r hv hs e f => by
        simp only [evE, m3] at e
        cases e
        exact f.here hs (m4 ρ H))
      exact ⟨p, fun _ => PT.val p fun _ => rfl⟩
    · cases h
  | .non, a, h => by
    simp only [ckE] at h
    split at h
    · rename_i j pos
      have p := PE.rd (g := g) (e := .non) (pe_non (X := X) (j := j) (pos := pos)) (fun σ H Q ρ env st r hv hs e f => by simp only [evE] at e; cases e; exact f.here hs .non)
      exact ⟨p, fun _ => PT.val p fun _ => rfl⟩
    · cases h
  | .bl b, a, h => by
    simp only [ckE] at h
    split at h
    · rename_i z0 j pos
      have eb := of_decide_eq_true h
      subst eb
      have p := PE.rd (g := g) (e := .bl b) (pe_bl (X := X) (j := j) (pos := pos)) (fun σ H Q ρ env st r hv hs e f => by simp only [evE] at e; cases e; exact f.here hs (.bl _))
      exact ⟨p, fun _ => PT.val p fun _ => rfl⟩
    · cases h
  | .int i, a, h => by
    simp only [ckE] at h
    split at h
    · rename_i z0 j pos
      have eb := of_decide_eq_true h
      subst eb
      have p := PE.rd (g := g) (e := .int i) (pe_int (X := X) (j := j) (pos := pos)) (fun σ H Q ρ env st r hv hs e f => by simp only [evE] at e; cases e; exact f.here hs (.int _))
      exact ⟨p, fun _ => PT.val p fun _ => rfl⟩
    · cases h
  | .str z, a, h => by
    simp only [ckE] at h
    split at h
    · rename_i z0 j pos
      have eb := of_decide_eq_true h
      subst eb
      have p := PE.rd (g := g) (e := .str z) (pe_str (X := X) (j := j) (pos := pos)) (fun σ H Q ρ env st r hv hs e f => by simp only [evE] at e; cases e; exact f.here hs (.str _))
      exact ⟨p, fun _ => PT.val p fun _ => rfl⟩
    · cases h
  | .tup es, a, h => by
    simp only [ckE] at h
    split at h
    · rename_i as k pos
      simp only [Bool.and_eq_true, decide_eq_true_eq] at h
      have p := PE.rd (g := g) (e := .tup es) (pe_tup (X := X) (x1 := k) (pos := pos) (sEs G es as h.1)) (fun σ H Q ρ env st r hv hs e f => by
        simp only [evE] at e
        obtain ⟨r1, e1, e2⟩ := Option.bind_eq_some_iff.mp e
        cases e2
        exact ⟨ρ, env, st, r1, hv, hs, e1, fun vs ρ1 H1 x1 s1 d1 => ⟨by rw [d1.length, ckEs_len h.1 e1]; exact Nat.le_of_lt (small1000 h.2), fun p hp => (f.weak x1).tup s1 d1 hp⟩⟩)
      exact ⟨p, fun _ => PT.val p fun _ => rfl⟩
    · cases h
  | .lst es, a, h => by
    simp only [ckE] at h
    split at h
    · rename_i as pos
      simp only [Bool.and_eq_true, decide_eq_true_eq] at h
      have p := PE.rd (g := g) (e := .lst es) (pe_lst (X := X) (pos := pos) (sEs G es as h.1)) (fun σ H Q ρ env st r hv hs e f => by
        simp only [evE] at e
        obtain ⟨r1, e1, e2⟩ := Option.bind_eq_some_iff.mp e
        cases e2
        exact ⟨ρ, env, st, r1, hv, hs, e1, fun vs ρ1 H1 x1 s1 d1 => ⟨by rw [d1.length, ckEs_len h.1 e1]; exact Nat.le_of_lt (small1000 h.2), fun p hp => (f.weak x1).lst s1 d1 hp⟩⟩)
      exact ⟨p, fun _ => PT.val p fun _ => rfl⟩
    · cases h
  | .dct0, a, h => by
    simp only [ckE] at h
    split at h
    · rename_i pos
      have p := PE.rd (g := g) (e := .dct0) (pe_dnewK (X := X) (pos := pos)) (fun σ H Q ρ env st r hv hs e f => by
        simp only [evE] at e
        cases e
        intro p hp
        have x := hs.new hp (o := .dK []) (c := .dK []) ⟨_, upd_same, .nil⟩
        exact f _ _ _ x.2 x.1 hs.newRef)
      exact ⟨p, fun _ => PT.val p fun _ => rfl⟩
    · cases h
  | .bin op a b, t, h => by
    simp only [ckE] at h
    split at h
    · rename_i x o y pos
      simp only [Bool.and_eq_true, decide_eq_true_eq] at h
      obtain ⟨⟨rfl, h1⟩, h2⟩ := h
      have p := PE.rd (g := g) (e := .bin op a b) (pe_op (X := X) (pos := pos) (opB_ok op) (sP G a x h1).1 (sP G b y h2).1) (fun σ H Q ρ env st r hv hs e f => by
        simp only [evE] at e
        obtain ⟨r1, e1, e2⟩ := Option.bind_eq_some_iff.mp e
        obtain ⟨r2, e3, e4⟩ := Option.bind_eq_some_iff.mp e2
        exact ⟨ρ, env, st, r1, hv, hs, e1, fun v ρ1 H1 x1 s1 d1 => ⟨ρ1, env, r1.2, r2, hv.mono x1, s1, e3, fun w ρ2 H2 x2 s2 d2 => ⟨ρ2, r2.2, r1.1, r2.1, r, s2, d1.mono x2, d2, e4, f.weak (x1.trans x2)⟩⟩⟩)
      exact ⟨p, fun _ => PT.val p fun _ => rfl⟩
    · cases h
  | .neg a, t, h => by
    simp only [ckE] at h
    split at h
    · rename_i x pos
      have p := PE.rd (g := g) (e := .neg a) (pe_un (X := X) (pos := pos) un_neg (sP G a x h).1) (fun σ H Q ρ env st r hv hs e f => by
        simp only [evE] at e
        obtain ⟨r1, e1, e2⟩ := Option.bind_eq_some_iff.mp e
        refine ⟨ρ, env, st, r1, hv, hs, e1, fun v ρ1 H1 x1 s1 d1 => ?_⟩
        split at e2
        · rename_i i ei
          cases e2
          rw [ei] at d1
          cases d1
          exact ⟨_, rfl, f _ ρ1 H1 x1 s1 (.int _)⟩
        · cases e2)
      exact ⟨p, fun _ => PT.val p fun _ => rfl⟩
    · cases h
  | .cmp op a b, t, h => by
    simp only [ckE] at h
    split at h
    · rename_i x o y pos
      simp only [Bool.and_eq_true, decide_eq_true_eq] at h
      obtain ⟨⟨⟨rfl, h1⟩, h2⟩, h3⟩ := h
      refine ⟨PE.rd (g := g) (e := .cmp op a b) (pe_cmpR (X := X) (pos := pos) (opC_ok (calm_hu G).1 op) (sP G a x h1).1 (sP G b y h2).1 (no_marks h3)) (fun σ H Q ρ env st r hv hs e f => ?_), fun _ => PT.imp (pt_cmpR (X := X) (pos := pos) (opC_ok (calm_hu G).1 op) (sP G a x h1).1 (sP G b y h2).1 (no_marks h3)) fun σ H Q ⟨ρ, env, st, r, k, hv, hs, e, ek, f⟩ => ?_⟩
      · simp only [evE] at e
        obtain ⟨r1, e1, e2⟩ := Option.bind_eq_some_iff.mp e
        obtain ⟨r2, e3, e4⟩ := Option.bind_eq_some_iff.mp e2
        obtain ⟨k, e5, rfl⟩ := Option.map_eq_some_iff.mp e4
        exact ⟨ρ, env, st, r1, hv, hs, e1, fun v ρ1 H1 x1 s1 d1 => ⟨ρ1, env, r1.2, r2, hv.mono x1, s1, e3, fun w ρ2 H2 x2 s2 d2 => ⟨ρ2, r2.2, r1.1, r2.1, k, s2, d1.mono x2, d2, e5, f _ ρ2 H2 (x1.trans x2) s2 (.bl _)⟩⟩⟩
      · simp only [evE] at e
        obtain ⟨r1, e1, e2⟩ := Option.bind_eq_some_iff.mp e
        obtain ⟨r2, e3, e4⟩ := Option.bind_eq_some_iff.mp e2
        obtain ⟨k', e5, rfl⟩ := Option.map_eq_some_iff.mp e4
        cases ek
        exact ⟨ρ, env, st, r1, hv, hs, e1, fun v ρ1 H1 x1 s1 d1 => ⟨ρ1, env, r1.2, r2, hv.mono x1, s1, e3, fun w ρ2 H2 x2 s2 d2 => ⟨ρ2, r2.2, r1.1, r2.1, k, s2, d1.mono x2, d2, e5, _, rfl, f ρ2 H2 (x1.trans x2) s2⟩⟩⟩
    · cases h
  | .chn op op' a b d, t, h => by
    simp only [ckE] at h
    split at h
    · rename_i x o o' y z pos
      simp only [Bool.and_eq_true, decide_eq_true_eq] at h
      obtain ⟨⟨⟨⟨⟨rfl, rfl⟩, h1⟩, h2⟩, h3⟩, h4⟩ := h
      have rd : ∀ (σ : L2.St) (H : Hp) (Q : VK) ρ env st r, RV X.K ρ H σ env → RS X.K ρ H st → evE g (.chn op op' a b d) env st = some r → (∀ k ρ' H', Ext ρ ρ' H H' → RS X.K ρ' H' r.2 → r.1 = .bl k → Q (.bl k) H') →
          tChain (RCD X (opC op)) (RCD X (opC op')) (tE X.K g a) (tE X.K g b) (tE X.K g d) σ H Q := fun σ H Q ρ env st r hv hs e f => by
        simp only [evE] at e
        obtain ⟨r1, e1, e2⟩ := Option.bind_eq_some_iff.mp e
        obtain ⟨r2, e3, e4⟩ := Option.bind_eq_some_iff.mp e2
        obtain ⟨k, e5, e6⟩ := Option.bind_eq_some_iff.mp e4
        refine ⟨ρ, env, st, r1, hv, hs, e1, fun v ρ1 H1 x1 s1 d1 => ⟨ρ1, env, r1.2, r2, hv.mono x1, s1, e3, fun w ρ2 H2 x2 s2 d2 => ⟨ρ2, r2.2, r1.1, r2.1, k, s2, d1.mono x2, d2, e5, k, rfl, ?_⟩⟩⟩
        cases k with
        | true =>
          rw [if_pos rfl] at e6 ⊢
          obtain ⟨r3, e7, e8⟩ := Option.bind_eq_some_iff.mp e6
          obtain ⟨k', e9, rfl⟩ := Option.map_eq_some_iff.mp e8
          exact ⟨ρ2, env, r2.2, r3, (hv.mono x1).mono x2, s2, e7, fun u ρ3 H3 x3 s3 d3 => ⟨ρ3, r3.2, r2.1, r3.1, k', s3, d2.mono x3, d3, e9, f k' ρ3 H3 (x1.trans (x2.trans x3)) s3 rfl⟩⟩
        | false =>
          rw [if_neg Bool.false_ne_true] at e6 ⊢
          cases e6
          exact f false ρ2 H2 (x1.trans x2) s2 rfl
      refine ⟨PE.rd (g := g) (e := .chn op op' a b d) (pe_chain (X := X) (pos := pos) (opC_ok (calm_hu G).1 op) (opC_ok (calm_hu G).1 op') (sP G a x h1).1 (sP G b y h2).1 (sP G d z h3).1 (no_last h4)) (fun σ H Q ρ env st r hv hs e f => rd σ H Q ρ env st r hv hs e fun k ρ' H' x' s' ek => f _ ρ' H' x' s' (by rw [ek]; exact .bl _)),
        fun _ => PT.imp (pt_chain (X := X) (pos := pos) (opC_ok (calm_hu G).1 op) (opC_ok (calm_hu G).1 op') (sP G a x h1).1 (sP G b y h2).1 (sP G d z h3).1 (no_last h4)) fun σ H Q ⟨ρ, env, st, r, k, hv, hs, e, ek, f⟩ => rd σ H _ ρ env st r hv hs e fun k' ρ' H' x' s' ek' => ?_⟩
      rw [ek'] at ek
      cases ek
      exact ⟨k, rfl, f ρ' H' x' s'⟩
    · cases h
  | .and a b, t, h => by
    unfold ckE at h
    split at h
    · rename_i x y pos
      simp only [Bool.and_eq_true] at h
      obtain ⟨⟨⟨h1, h2⟩, h3⟩, h4⟩ := h
      exact ⟨PE.imp (pe_and (X := X) (pos := pos) (sP G a x h1).1 (pe_one (sP G b y h2).1)) (and_read fun _ _ _ q => q), fun _ => PT.imp (PW.pt (pw_and (X := X) (pos := pos) ((sP G a x h1).2 h3) (pw_and1 ((sP G b y h2).2 h4)))) (and_readT fun _ _ _ q => q)⟩
    · rename_i x y z pos
      split at h
      · rename_i b1 b2
        simp only [Bool.and_eq_true] at h
        obtain ⟨⟨⟨⟨⟨h1, h2⟩, h3⟩, h4⟩, h5⟩, h6⟩ := h
        exact ⟨PE.imp (pe_and (X := X) (pos := pos) (sP G a x h1).1 (pe_and (sP G b1 y h2).1 (pe_one (sP G b2 z h3).1))) (and_read (and_read fun _ _ _ q => q)),
          fun _ => PT.imp (PW.pt (pw_and (X := X) (pos := pos) ((sP G a x h1).2 h4) (pw_and ((sP G b1 y h2).2 h5) (pw_and1 ((sP G b2 z h3).2 h6))))) (and_readT (and_readT fun _ _ _ q => q))⟩
      · cases h
    · cases h
  | .or a b, t, h => by
    unfold ckE at h
    split at h
    · rename_i x y pos
      simp only [Bool.and_eq_true] at h
      obtain ⟨⟨⟨h1, h2⟩, h3⟩, h4⟩ := h
      exact ⟨PE.imp (pe_or (X := X) (pos := pos) (sP G a x h1).1 (pe_one (sP G b y h2).1)) (or_read fun _ _ _ q => q), fun _ => PT.imp (PW.pt (pw_or (X := X) (pos := pos) ((sP G a x h1).2 h3) (pw_or1 ((sP G b y h2).2 h4)))) (or_readT fun _ _ _ q => q)⟩
    · rename_i x y z pos
      split at h
      · rename_i b1 b2
        simp only [Bool.and_eq_true] at h
        obtain ⟨⟨⟨⟨⟨h1, h2⟩, h3⟩, h4⟩, h5⟩, h6⟩ := h
        exact ⟨PE.imp (pe_or (X := X) (pos := pos) (sP G a x h1).1 (pe_or (sP G b1 y h2).1 (pe_one (sP G b2 z h3).1))) (or_read (or_read fun _ _ _ q => q)),
          fun _ => PT.imp (PW.pt (pw_or (X := X) (pos := pos) ((sP G a x h1).2 h4) (pw_or ((sP G b1 y h2).2 h5) (pw_or1 ((sP G b2 z h3).2 h6))))) (or_readT (or_readT fun _ _ _ q => q))⟩
      · cases h
    · cases h
  | .not a, t, h => by
    simp only [ckE] at h
    split at h
    · rename_i x pos
      simp only [Bool.and_eq_true] at h
      refine ⟨PE.rd (g := g) (e := .not a) (pe_not (X := X) (pos := pos) (sP G a x h.1).1) (fun σ H Q ρ env st r hv hs e f => ?_), fun _ => PT.imp (pt_not (X := X) (pos := pos) ((sP G a x h.1).2 h.2)) fun σ H Q ⟨ρ, env, st, r, k, hv, hs, e, ek, f⟩ => ?_⟩
      · simp only [evE] at e
        obtain ⟨r1, e1, e2⟩ := Option.bind_eq_some_iff.mp e
        obtain ⟨k, e3, rfl⟩ := Option.map_eq_some_iff.mp e2
        exact ⟨ρ, env, st, r1, hv, hs, e1, fun v ρ1 H1 x1 s1 d1 => ⟨k, bl_of d1 e3, f _ ρ1 H1 x1 s1 (.bl _)⟩⟩
      · simp only [evE] at e
        obtain ⟨r1, e1, e2⟩ := Option.bind_eq_some_iff.mp e
        obtain ⟨k', e3, rfl⟩ := Option.map_eq_some_iff.mp e2
        cases ek
        exact ⟨ρ, env, st, r1, k', hv, hs, e1, e3, fun ρ1 H1 x1 s1 => f ρ1 H1 x1 s1⟩
    · cases h
  | .ife d a b, t, h => by
    simp only [ckE] at h
    split at h
    · rename_i x y z pos
      simp only [Bool.and_eq_true] at h
      obtain ⟨⟨⟨h1, h2⟩, h3⟩, h4⟩ := h
      refine ⟨PE.rd (g := g) (e := .ife d a b) (pe_ifExp (X := X) (pos := pos) ((sP G d x h1).2 h4) (sP G a y h2).1 (sP G b z h3).1) (fun σ H Q ρ env st r hv hs e f => ?_), fun z => by cases z⟩
      simp only [evE] at e
      obtain ⟨r1, e1, e2⟩ := Option.bind_eq_some_iff.mp e
      obtain ⟨k, e3, e4⟩ := Option.bind_eq_some_iff.mp e2
      refine ⟨ρ, env, st, r1, k, hv, hs, e1, e3, fun ρ1 H1 x1 s1 => ?_⟩
      cases k with
      | true =>
        rw [if_pos rfl] at e4 ⊢
        exact ⟨ρ1, env, r1.2, r, hv.mono x1, s1, e4, f.weak x1⟩
      | false =>
        rw [if_neg Bool.false_ne_true] at e4 ⊢
        exact ⟨ρ1, env, r1.2, r, hv.mono x1, s1, e4, f.weak x1⟩
    · cases h
  | .idx a i, t, h => by
    simp only [ckE] at h
    split at h
    · rename_i x y pos
      simp only [Bool.and_eq_true] at h
      obtain ⟨⟨h1, h2⟩, h3⟩ := h
      have p := PE.rd (g := g) (e := .idx a i) (pe_ix (X := X) (pos := pos) opIx_ok (sP G a x h1).1 (sP G i y h2).1 (plain_ix h3)) (fun σ H Q ρ env st r hv hs e f => by
        simp only [evE] at e
        obtain ⟨r1, e1, e2⟩ := Option.bind_eq_some_iff.mp e
        obtain ⟨r2, e3, e4⟩ := Option.bind_eq_some_iff.mp e2
        obtain ⟨d, e5, rfl⟩ := Option.map_eq_some_iff.mp e4
        exact ⟨ρ, env, st, r1, hv, hs, e1, fun v ρ1 H1 x1 s1 d1 => ⟨ρ1, env, r1.2, r2, hv.mono x1, s1, e3, fun w ρ2 H2 x2 s2 d2 => ⟨ρ2, r2.2, r1.1, r2.1, d, s2, d1.mono x2, d2, e5, fun u hu => f u ρ2 H2 (x1.trans x2) s2 hu⟩⟩⟩)
      exact ⟨p, fun _ => PT.val p fun _ => rfl⟩
    · cases h
  | .slc a lo hi, t, h => by
    simp only [ckE] at h
    split at h
    · rename_i x l u p2 pos
      simp only [Bool.and_eq_true] at h
      obtain ⟨⟨h1, h2⟩, h3⟩ := h
      have p := PE.rd (g := g) (e := .slc a lo hi) (pe_slice (X := X) (p2 := p2) (pos := pos) opSl_ok (sP G a x h1).1 (sO G lo l h2) (sO G hi u h3)) (fun σ H Q ρ env st r hv hs e f => by
        simp only [evE] at e
        obtain ⟨r1, e1, e2⟩ := Option.bind_eq_some_iff.mp e
        obtain ⟨r2, e3, e4⟩ := Option.bind_eq_some_iff.mp e2
        obtain ⟨r3, e5, e6⟩ := Option.bind_eq_some_iff.mp e4
        exact ⟨ρ, env, st, r1, hv, hs, e1, fun v ρ1 H1 x1 s1 d1 => ⟨ρ1, env, r1.2, r2, hv.mono x1, s1, e3, fun ρ2 H2 x2 s2 => ⟨ρ2, env, r2.2, r3, (hv.mono x1).mono x2, s2, e5, fun ρ3 H3 x3 s3 => ⟨ρ3, r3.2, r1.1, r, s3, d1.mono (x2.trans x3), e6, f.weak (x1.trans (x2.trans x3))⟩⟩⟩⟩)
      exact ⟨p, fun _ => PT.val p fun _ => rfl⟩
    · cases h
  | .rev a, t, h => by
    simp only [ckE] at h
    split at h
    · rename_i x k p1 p2 p3 pos
      have p := PE.rd (g := g) (e := .rev a) (pe_revL (X := X) (k := k) (p1 := p1) (p2 := p2) (p3 := p3) (pos := pos) (sP G a x h).1) (fun σ H Q ρ env st r hv hs e f => by
        simp only [evE] at e
        obtain ⟨r1, e1, e2⟩ := Option.bind_eq_some_iff.mp e
        refine ⟨ρ, env, st, r1, hv, hs, e1, fun v ρ1 H1 x1 s1 d1 => ?_⟩
        unfold opRev at e2
        split at e2
        · rename_i xs ed
          cases e2
          rw [ed] at d1
          cases d1 with
          | rol q1 q2 => exact ⟨_, _, rfl, rol_seq q1, fun p hp => (f.weak x1).lst s1 q2.rev hp⟩
        · rename_i m ed
          rw [ed] at d1
          split at e2
          · rename_i xs ea
            cases e2
            cases d1 with
            | loc l =>
              obtain ⟨vs, hvs, qvs⟩ := s1.lst ea l
              exact ⟨_, _, rfl, SqL.of hvs, fun p hp => (f.weak x1).lst s1 qvs.rev hp⟩
          · cases e2
        · cases e2)
      exact ⟨p, fun _ => PT.val p fun _ => rfl⟩
    · cases h
  | .call k es, t, h => by
    simp only [ckE] at h
    split at h
    · rename_i x p0 as pos
      simp only [Bool.and_eq_true, decide_eq_true_eq] at h
      obtain ⟨⟨⟨h1, h2⟩, h3⟩, h4⟩ := h
      obtain ⟨⟨nm, ps⟩, e5, e6⟩ := Option.map_eq_some_iff.mp h4
      have e7 : nm = x := congrArg Prod.fst e6
      have e8 : ps.length = as.length := congrArg Prod.snd e6
      subst e7
      obtain ⟨adr, fd, m1, m2, m3, m4, _⟩ := G.fn k nm ps e5
      have hdb := (okName_not h3).1
      have p : PE X (.Call (.Name nm p0) as [] pos) (tE X.K g (.call k es)) := by
        have hA := sEs G es as h1
        cases as with
        | nil =>
          refine PE.rd (g_call0 (X := X) (p := p0) (pos := pos) m4 G.gu G.room (G.glob h2) m1 m2 m3 hdb) (fun σ H Q ρ env st r hv hs e f => ?_)
          simp only [evE] at e
          obtain ⟨r1, e1, e2⟩ := Option.bind_eq_some_iff.mp e
          have l0 := ckEs_len h1 e1
          have r0 : r1 = ([], st) := by
            cases es with
            | nil => simp only [evEs] at e1; cases e1; rfl
            | cons _ _ => simp [ckEs] at h1
          subst r0
          exact ⟨ρ, st, [], r, e8.symm, hs, .nil, e2, f⟩
        | cons a1 as1 =>
          refine PE.rd (g_call (X := X) (p := p0) (pos := pos) m4 G.gu G.room (G.glob h2) m1 m2 m3 hA (ckEs_head h1) hdb) (fun σ H Q ρ env st r hv hs e f => ?_)
          simp only [evE] at e
          obtain ⟨r1, e1, e2⟩ := Option.bind_eq_some_iff.mp e
          exact ⟨ρ, env, st, r1, hv, hs, e1, fun vs ρ1 H1 x1 s1 d1 => ⟨ρ1, r1.2, r1.1, r, by rw [d1.length, ckEs_len h1 e1, e8], s1, d1, e2, f.weak x1⟩⟩
      exact ⟨p, fun _ => PT.val p fun _ => rfl⟩
    · cases h
  | .calk k es ks, t, h => by
    simp only [ckE] at h
    split at h
    · rename_i x p0 as kws pos
      simp only [Bool.and_eq_true] at h
      obtain ⟨⟨⟨⟨⟨h1, h2⟩, h3⟩, h4⟩, h5⟩, h6⟩ := h
      split at h6
      · rename_i q eq
        simp only [Bool.and_eq_true, decide_eq_true_eq] at h6
        obtain ⟨⟨h7, h8⟩, h9⟩ := h6
        obtain ⟨⟨nm, ps⟩, e5, e6⟩ := Option.map_eq_some_iff.mp h9
        have e7 : nm = x := congrArg Prod.fst e6
        have e8 : ps.length = q.2.2.2.length := congrArg Prod.snd e6
        subst e7
        obtain ⟨adr, fd, m1, m2, m3, m4, m5⟩ := G.fn q.1 nm ps e5
        obtain ⟨m6, m7⟩ := m5 k q eq rfl
        have hdb := (okName_not h4).1
        have p : PE X (.Call (.Name nm p0) as kws pos) (tE X.K g (.calk k es ks)) := by
          have hA := sEs G es as h1
          have hK := sKs G ks kws h2
          cases as with
          | nil =>
            have hm0 : q.2.1 = 0 := h8.symm
            rw [hm0] at m7
            refine PE.rd (g_callk0 (X := X) (p := p0) (pos := pos) m4 G.gu G.room (G.glob h3) m1 m2 m7 hK h7 hdb) (fun σ H Q ρ env st r hv hs e f => ?_)
            simp only [evE] at e
            obtain ⟨r1, e1, e2⟩ := Option.bind_eq_some_iff.mp e
            obtain ⟨r2, e3, e4⟩ := Option.bind_eq_some_iff.mp e2
            have r0 : r1 = ([], st) := by
              cases es with
              | nil => simp only [evEs] at e1; cases e1; rfl
              | cons _ _ => simp [ckEs] at h1
            subst r0
            rw [m6] at e4
            refine ⟨ρ, env, st, r2, hv, hs, e3, fun zs ρ1 H1 x1 s1 d1 => ⟨?_, ρ1, r2.2, _, r, by rw [List.length_map]; exact e8.symm, s1, pick_rds d1 _, e4, f.weak x1⟩⟩
            rw [d1.length, ckKs_len h2 e3]
            have := congrArg List.length h7
            simpa using this
          | cons a1 as1 =>
            refine PE.rd (g_callk (X := X) (p := p0) (pos := pos) m4 G.gu G.room (G.glob h3) m1 m2 m7 hA hK (ckEs_head h1) h7 hdb) (fun σ H Q ρ env st r hv hs e f => ?_)
            simp only [evE] at e
            obtain ⟨r1, e1, e2⟩ := Option.bind_eq_some_iff.mp e
            obtain ⟨r2, e3, e4⟩ := Option.bind_eq_some_iff.mp e2
            rw [m6] at e4
            refine ⟨ρ, env, st, r1, hv, hs, e1, fun vs ρ1 H1 x1 s1 d1 => ⟨ρ1, env, r1.2, r2, hv.mono x1, s1, e3, fun zs ρ2 H2 x2 s2 d2 => ⟨by rw [d1.length, ckEs_len h1 e1]; exact h8, ?_, ρ2, r2.2, _, r, by rw [List.length_map]; exact e8.symm, s2, pick_rds ((d1.mono x2).append d2) _, e4, f.weak (x1.trans x2)⟩⟩⟩
            rw [d2.length, ckKs_len h2 e3]
            have := congrArg List.length h7
            simpa using this
        exact ⟨p, fun _ => PT.val p fun _ => rfl⟩
      · cases h6
    · cases h
  | .bi b es, t, h => by
    simp only [ckE] at h
    split at h
    · rename_i x p0 a1 as pos
      simp only [Bool.and_eq_true, decide_eq_true_eq] at h
      obtain ⟨⟨h1, h2⟩, h3⟩ := h
      obtain ⟨q1, q2, q3, q4⟩ := G.pre h3
      have hA := sEs G es (a1 :: as) h1
      have hh := ckEs_head h1
      have st1 := headE_star a1 as X.env (hh a1 List.mem_cons_self)
      have st2 := stars_plain X.env pos as fun z hz => hh z (List.mem_cons_of_mem _ hz)
      have cr := bi_ok (X := X) G.calm G.gu (calm_hu G).2 b
      have rd : ∀ (σ : L2.St) (H : Hp) (Q : VK) ρ env st r, RV X.K ρ H σ env → RS X.K ρ H st → evE g (.bi b es) env st = some r → Fin X.K ρ H r.1 r.2 Q → tCB (RBi X (opBi b)) (tEs X.K g es) σ H Q := fun σ H Q ρ env st r hv hs e f => by
        simp only [evE] at e
        obtain ⟨r1, e1, e2⟩ := Option.bind_eq_some_iff.mp e
        exact ⟨ρ, env, st, r1, hv, hs, e1, fun vs ρ1 H1 x1 s1 d1 => ⟨ρ1, r1.2, r1.1, r, s1, d1, e2, f.weak x1⟩⟩
      have p : PE X (.Call (.Name x p0) (a1 :: as) [] pos) (tE X.K g (.bi b es)) := by
        subst h2
        cases b with
        | len => exact PE.rd (pe_callB (X := X) (p := p0) (pos := pos) cr q1 q2 (by decide +kernel) hA q4 q3 st1 st2) rd
        | abs => exact PE.rd (pe_callB (X := X) (p := p0) (pos := pos) cr q1 q2 (by decide +kernel) hA q4 q3 st1 st2) rd
        | sum => exact PE.rd (pe_callB (X := X) (p := p0) (pos := pos) cr q1 q2 (by decide +kernel) hA q4 q3 st1 st2) rd
        | tuple => exact PE.rd (pe_callTy (X := X) (p := p0) (pos := pos) cr q1 q2 (by decide +kernel) hA q4 q3 st1 st2) rd
        | list => exact PE.rd (pe_callTy (X := X) (p := p0) (pos := pos) cr q1 q2 (by decide +kernel) hA q4 q3 st1 st2) rd
        | int => exact PE.rd (pe_callTy (X := X) (p := p0) (pos := pos) cr q1 q2 (by decide +kernel) hA q4 q3 st1 st2) rd
        | repr => exact PE.rd (pe_callB (X := X) (p := p0) (pos := pos) cr q1 q2 (by decide +kernel) hA q4 q3 st1 st2) rd
        | max2 => exact PE.rd (pe_callB (X := X) (p := p0) (pos := pos) cr q1 q2 (by decide +kernel) hA q4 q3 st1 st2) rd
        | min2 => exact PE.rd (pe_callB (X := X) (p := p0) (pos := pos) cr q1 q2 (by decide +kernel) hA q4 q3 st1 st2) rd
        | dict => exact PE.rd (pe_callTy (X := X) (p := p0) (pos := pos) cr q1 q2 (by decide +kernel) hA q4 q3 st1 st2) rd
        | any => exact PE.rd (pe_callB (X := X) (p := p0) (pos := pos) cr q1 q2 (by decide +kernel) hA q4 q3 st1 st2) rd
        | all => exact PE.rd (pe_callB (X := X) (p := p0) (pos := pos) cr q1 q2 (by decide +kernel) hA q4 q3 st1 st2) rd
        | dict0 => exact PE.rd (pe_callTy (X := X) (p := p0) (pos := pos) cr q1 q2 (by decide +kernel) hA q4 q3 st1 st2) rd
        | str => exact PE.rd (pe_callTy (X := X) (p := p0) (pos := pos) cr q1 q2 (by decide +kernel) hA q4 q3 st1 st2) rd
      exact ⟨p, fun _ => PT.val p fun _ => rfl⟩
    · cases h
  | .isi a ty, t, h => by
    simp only [ckE] at h
    split at h
    · rename_i x p0 y z p1 pos
      simp only [Bool.and_eq_true, decide_eq_true_eq] at h
      obtain ⟨⟨⟨⟨⟨h1, h2⟩, h3⟩, h4⟩, h5⟩, h6⟩ := h
      obtain ⟨q1, q2, q3, q4⟩ := G.pre h4
      obtain ⟨z1, z2, z3, z4⟩ := G.pre h6
      have hT : PE X (.Name z p1) (tC (.ty (tyN ty))) := by
        refine pe_bltn z1 z2 (u := .type (tyN ty)) ?_ rfl z4 z3
        rw [h5]
        cases ty <;> decide +kernel
      subst h3
      have hA : PA X [y, .Name z p1] (tCons (tE X.K g a) (tCons (tC (.ty (tyN ty))) tNil)) := pa_cons (sP G a y h1).1 (pa_cons hT pa_nil) (headE_star _ _ _ h2)
      have p := PE.rd (g := g) (e := .isi a ty) (pe_callB (X := X) (p := p0) (pos := pos) (isi_ok ty) q1 q2 (by decide +kernel) hA q4 q3 (headE_star _ _ _ h2) rfl) (fun σ H Q ρ env st r hv hs e f => by
        simp only [evE] at e
        obtain ⟨r1, e1, e2⟩ := Option.bind_eq_some_iff.mp e
        obtain ⟨k, e3, rfl⟩ := Option.map_eq_some_iff.mp e2
        exact ⟨ρ, env, st, r1, hv, hs, e1, fun v ρ1 H1 x1 s1 d1 => ⟨ρ1, r1.2, v, r1.1, k, rfl, s1, d1, e3, f _ ρ1 H1 x1 s1 (.bl _)⟩⟩)
      exact ⟨p, fun _ => PT.val p fun _ => rfl⟩
    · cases h
  | .mth m o es, t, h => by
    simp only [ckE] at h
    split at h
    · rename_i x nm ap as cp
      simp only [Bool.and_eq_true, decide_eq_true_eq, Bool.not_eq_true'] at h
      obtain ⟨⟨⟨⟨⟨h1, h2⟩, h3⟩, h4⟩, h5⟩, h6⟩ := h
      have hO := (sP G o x h1).1
      have hA := sEs G es as h3
      have hh := ckEs_head h3
      subst h4
      have rd : m ≠ .join → ∀ (σ : L2.St) (H : Hp) (Q : VK) ρ env st r, RV X.K ρ H σ env → RS X.K ρ H st → evE g (.mth m o es) env st = some r → Fin X.K ρ H r.1 r.2 Q → tBM X.K "list" (RMe X (opMe m)) (tE X.K g o) (tEs X.K g es) σ H Q := fun hm σ H Q ρ env st r hv hs e f => by
        simp only [evE] at e
        obtain ⟨r1, e1, e2⟩ := Option.bind_eq_some_iff.mp e
        split at e2
        · rename_i hr
          obtain ⟨r2, e3, e4⟩ := Option.bind_eq_some_iff.mp e2
          exact ⟨ρ, env, st, r1, hv, hs, e1, fun v ρ1 H1 x1 s1 d1 => ⟨rcv_list hm s1 d1 hr, ρ1, env, r1.2, r2, hv.mono x1, s1, e3, fun vs ρ2 H2 x2 s2 d2 => ⟨ρ2, r2.2, r1.1, r2.1, r, s2, d1.mono x2, d2, e4, f.weak (x1.trans x2)⟩⟩⟩
        · cases e2
      have p : PE X (.Call (.Attribute x (meS m) ap) as [] cp) (tE X.K g (.mth m o es)) := by
        cases m with
        | append =>
          match as, h6, hA, hh with
          | [], h6, _, _ => cases h6
          | _ :: _ :: _, h6, _, _ => cases h6
          | [a1], _, hA, hh => exact PE.rd (pe_bm (X := X) PySem.F.plainAttrs_list PySem.F.slot_list_append PySem.F.type_list_append append_ok hO hA (attr_base h2) (few_args (hh a1 List.mem_cons_self)) h5 (headE_star a1 [] X.env (hh a1 List.mem_cons_self)) rfl) (rd (by decide))
        | extend =>
          match as, h6, hA, hh with
          | [], h6, _, _ => cases h6
          | _ :: _ :: _, h6, _, _ => cases h6
          | [a1], _, hA, hh => exact PE.rd (pe_bm (X := X) PySem.F.plainAttrs_list PySem.F.slot_list_extend PySem.F.type_list_extend extend_ok hO hA (attr_base h2) (few_args (hh a1 List.mem_cons_self)) h5 (headE_star a1 [] X.env (hh a1 List.mem_cons_self)) rfl) (rd (by decide))
        | popAt =>
          match as, h6, hA, hh with
          | [], h6, _, _ => cases h6
          | _ :: _ :: _, h6, _, _ => cases h6
          | [a1], _, hA, hh => exact PE.rd (pe_bm (X := X) PySem.F.plainAttrs_list PySem.F.slot_list_pop PySem.F.type_list_pop popAt_ok hO hA (attr_base h2) (few_args (hh a1 List.mem_cons_self)) h5 (headE_star a1 [] X.env (hh a1 List.mem_cons_self)) rfl) (rd (by decide))
        | pop =>
          cases as with
          | cons _ _ => cases h6
          | nil =>
            refine PE.rd (pe_bm0 (X := X) PySem.F.plainAttrs_list PySem.F.slot_list_pop PySem.F.type_list_pop pop_ok hO (attr_base h2) h5) (fun σ H Q ρ env st r hv hs e f => ?_)
            have es0 : es = .nil := by
              cases es with
              | nil => rfl
              | cons _ _ => simp [ckEs] at h3
            subst es0
            simp only [evE, evEs] at e
            obtain ⟨r1, e1, e2⟩ := Option.bind_eq_some_iff.mp e
            split at e2
            · rename_i hr
              exact ⟨ρ, env, st, r1, hv, hs, e1, fun v ρ1 H1 x1 s1 d1 => ⟨rcv_list (by decide) s1 d1 hr, ρ1, r1.2, r1.1, [], r, s1, d1, .nil, e2, f.weak x1⟩⟩
            · cases e2
        | insert => cases h6
        | join => cases h6
        | index => cases h6
        | get1 => cases h6
        | get2 => cases h6
        | reverse => cases h6
      exact ⟨p, fun _ => PT.val p fun _ => rfl⟩
    · cases h
  | .lc elt tg it cs own, t, h => by
    simp only [ckE] at h
    split at h
    · rename_i x te ie ifs scope pos
      simp only [Bool.and_eq_true] at h
      obtain ⟨⟨⟨⟨⟨⟨⟨⟨h1, h2⟩, h3⟩, h4⟩, h5⟩, h6⟩, h7⟩, h8⟩, h9⟩ := h
      have hI := sI G it te ie h1
      have ok : BlkOk X.N X.env.scope scope (own.map fun i => ((c.N[i]?).getD (Str.ofString ""), i)) := by
        rw [G.N, G.sc]; exact blkOk_by h2
      have ow : (own.map fun i => ((c.N[i]?).getD (Str.ofString ""), i)).map (·.2) = own := by
        rw [List.map_map]
        exact List.map_id _
      have hsl : ∀ i ∈ tg.sl, i ∈ own := fun i hi => of_decide_eq_true (List.all_eq_true.mp h9 i hi)
      have p := pe_lc (X := X) (pos := pos) (g := gT X.K tg) (tt := tTs X.K g cs) (te := tE X.K g elt) G.calm (by rw [G.N]; exact G.nd) hI ok
        (fun s H C cl fp => sT (G.blk s H scope C cl fp) tg te h3) (fun s H C cl fp => sTs1 (G.blk s H scope C cl fp) cs ifs h5 h6 h7) (fun s H C cl fp => (sP (G.blk s H scope C cl fp) elt x h4).1) (fold_it h8)
      rw [ow] at p
      have p' : PE X (.ListComp x [⟨te, ie, ifs, 0⟩] scope pos) (tE X.K g (.lc elt tg it cs own)) := PE.imp p (lc_read (fun _ _ _ q => q) (fun _ _ _ _ q => q) (fun _ _ _ q => q) (fun _ _ _ q => q) hsl)
      exact ⟨p', fun _ => PT.val p' fun _ => rfl⟩
    · cases h
theorem sEs {c : Cs} {g : Cfg} {n : Nat} {X : Cx} (G : Gd c g n X) : ∀ (es : Es) (as : List Expr), ckEs c es as = true → PA X as (tEs X.K g es)
  | .nil, as, h => by
    simp only [ckEs] at h
    split at h
    · refine ⟨fun pos pins s σ H Q I q => pa_nil.run pos pins s σ H Q I ?_⟩
      obtain ⟨ρ, env, st, r, hv, hs, e, f⟩ := q
      simp only [evEs] at e
      cases e
      exact f [] ρ H (Ext.refl _ _) hs .nil
    · cases h
  | .cons e es, as, h => by
    simp only [ckEs] at h
    split at h
    · rename_i a as
      simp only [Bool.and_eq_true] at h
      obtain ⟨⟨h1, h2⟩, h3⟩ := h
      have p := pa_cons (X := X) (sP G e a h2).1 (sEs G es as h3) (headE_star a as X.env h1)
      refine ⟨fun pos pins s σ H Q I q => p.run pos pins s σ H Q I ?_⟩
      obtain ⟨ρ, env, st, r, hv, hs, e1, f⟩ := q
      simp only [evEs] at e1
      obtain ⟨r1, e2, e3⟩ := Option.bind_eq_some_iff.mp e1
      obtain ⟨r2, e4, rfl⟩ := Option.map_eq_some_iff.mp e3
      exact ⟨ρ, env, st, r1, hv, hs, e2, fun v ρ1 H1 x1 s1 d1 => ⟨ρ1, env, r1.2, r2, hv.mono x1, s1, e4, fun vs ρ2 H2 x2 s2 d2 => f (v :: vs) ρ2 H2 (x1.trans x2) s2 (.cons (d1.mono x2) d2)⟩⟩
    · cases h
theorem sKs {c : Cs} {g : Cfg} {n : Nat} {X : Cx} (G : Gd c g n X) : ∀ (es : Es) (as : List Keyword), ckKs c es as = true → PK X as (tEs X.K g es)
  | .nil, as, h => by
    simp only [ckKs] at h
    split at h
    · refine ⟨fun pos pins s σ H Q I q => pk_nil.run pos pins s σ H Q I ?_⟩
      obtain ⟨ρ, env, st, r, hv, hs, e, f⟩ := q
      simp only [evEs] at e
      cases e
      exact f [] ρ H (Ext.refl _ _) hs .nil
    · cases h
  | .cons e es, as, h => by
    simp only [ckKs] at h
    split at h
    · rename_i nm a p0 as
      simp only [Bool.and_eq_true] at h
      have p := pk_cons (X := X) (nm := some nm) (kpos := p0) (sP G e a h.1).1 (sKs G es as h.2)
      refine ⟨fun pos pins s σ H Q I q => p.run pos pins s σ H Q I ?_⟩
      obtain ⟨ρ, env, st, r, hv, hs, e1, f⟩ := q
      simp only [evEs] at e1
      obtain ⟨r1, e2, e3⟩ := Option.bind_eq_some_iff.mp e1
      obtain ⟨r2, e4, rfl⟩ := Option.map_eq_some_iff.mp e3
      exact ⟨ρ, env, st, r1, hv, hs, e2, fun v ρ1 H1 x1 s1 d1 => ⟨ρ1, env, r1.2, r2, hv.mono x1, s1, e4, fun vs ρ2 H2 x2 s2 d2 => f (v :: vs) ρ2 H2 (x1.trans x2) s2 (.cons (d1.mono x2) d2)⟩⟩
    · cases h
theorem sTs1 {c : Cs} {g : Cfg} {n : Nat} {X : Cx} (G : Gd c g n X) : ∀ (cs : Es) (ifs : List Expr), ckEs c cs ifs = true → cs.one = true → cs.tst = true → PTs X ifs (tTs X.K g cs)
  | .nil, as, h, _, _ => by
    simp only [ckEs] at h
    split at h
    · refine ⟨fun pins s σ H Q I q => pts_nil.run pins s σ H Q I ?_⟩
      obtain ⟨ρ, env, st, r, hv, hs, e, f⟩ := q
      simp only [evTs] at e
      cases e
      exact f ρ H (Ext.refl _ _) hs
    · cases h
  | .cons e .nil, as, h, _, ht => by
    simp only [ckEs] at h
    split at h
    · rename_i a as
      simp only [Bool.and_eq_true] at h
      obtain ⟨⟨h1, h2⟩, h3⟩ := h
      split at h3
      · simp only [Es.tst, Bool.and_true] at ht
        refine ⟨fun pins s σ H Q I q => (pts_one ((sP G e a h2).2 ht)).run pins s σ H Q I ?_⟩
        obtain ⟨ρ, env, st, r, hv, hs, e1, f⟩ := q
        simp only [evTs] at e1
        obtain ⟨r1, e2, e3⟩ := Option.bind_eq_some_iff.mp e1
        obtain ⟨k, e4, e5⟩ := Option.bind_eq_some_iff.mp e3
        refine ⟨ρ, env, st, r1, k, hv, hs, e2, e4, fun ρ1 H1 x1 s1 => ?_⟩
        cases k with
        | true => rw [if_pos rfl] at e5; cases e5; exact f ρ1 H1 x1 s1
        | false => rw [if_neg Bool.false_ne_true] at e5; cases e5; exact f ρ1 H1 x1 s1
      · cases h3
    · cases h
  | .cons _ (.cons _ _), _, _, h, _ => by cases h
theorem sO {c : Cs} {g : Cfg} {n : Nat} {X : Cx} (G : Gd c g n X) : ∀ (o : OE) (a : Option Expr), ckO c o a = true → PO X a (tO X.K g o)
  | .no, a, h => by
    simp only [ckO] at h
    split at h
    · refine ⟨fun pins s σ H Q I q => po_none.run pins s σ H Q I ?_⟩
      obtain ⟨ρ, env, st, r, hv, hs, e, f⟩ := q
      simp only [evO] at e
      cases e
      exact f ρ H (Ext.refl _ _) hs
    · cases h
  | .so e, a, h => by
    simp only [ckO] at h
    split at h
    · rename_i a
      refine ⟨fun pins s σ H Q I q => (po_some (sP G e a h).1).run pins s σ H Q I ?_⟩
      obtain ⟨ρ, env, st, r, hv, hs, e1, f⟩ := q
      simp only [evO] at e1
      obtain ⟨r1, e2, e3⟩ := Option.bind_eq_some_iff.mp e1
      refine ⟨ρ, env, st, r1, hv, hs, e2, fun v ρ1 H1 x1 s1 d1 => ?_⟩
      split at e3
      · rename_i i ei
        cases e3
        rw [ei] at d1
        cases d1
        exact ⟨i, rfl, f ρ1 H1 x1 s1⟩
      · cases e3
    · cases h
theorem sI {c : Cs} {g : Cfg} {n : Nat} {X : Cx} (G : Gd c g n X) : ∀ (it : Iv.It) (tg a : Expr), ckI c it tg a = true → PI X tg a (tI X.K g it)
  | .val e, tg, a, h => by
    simp only [ckI, Bool.and_eq_true] at h
    have pe := (sP G e a h.1).1
    refine ⟨fun pins s σ H R I q => ?_⟩
    obtain ⟨ρ, env, st, r, hv, hs, e1, f⟩ := q
    simp only [evI] at e1
    obtain ⟨r1, e2, e3⟩ := Option.bind_eq_some_iff.mp e1
    obtain ⟨src, e4, rfl⟩ := Option.map_eq_some_iff.mp e3
    unfold srcOf at e4
    split at e4
    · rename_i xs ed
      cases e4
      exact (pi_tup pe).run pins s σ H R I ⟨ρ, env, st, r1, hv, hs, e2, fun v ρ1 H1 x1 s1 d1 => by
        rw [ed] at d1
        cases d1 with
        | tup q1 q2 => exact ⟨_, rfl, ⟨_, q1⟩, f _ ρ1 H1 x1 s1 (wd_tup q1 q2)⟩⟩
    · rename_i xs ed
      cases e4
      exact (pi_list pe).run pins s σ H R I ⟨ρ, env, st, r1, hv, hs, e2, fun v ρ1 H1 x1 s1 d1 => by
        rw [ed] at d1
        cases d1 with
        | rol q1 q2 => exact ⟨_, rfl, ⟨_, rol_seq q1⟩, f _ ρ1 H1 x1 s1 (wd_rol q1 q2)⟩⟩
    · rename_i z ed
      cases e4
      exact (pi_str pe).run pins s σ H R I ⟨ρ, env, st, r1, hv, hs, e2, fun v ρ1 H1 x1 s1 d1 => by
        rw [ed] at d1
        cases d1
        exact ⟨_, rfl, f _ ρ1 H1 x1 s1 wd_str⟩⟩
    · rename_i m ed
      split at e4
      · rename_i xs ea
        cases e4
        exact (pi_list pe).run pins s σ H R I ⟨ρ, env, st, r1, hv, hs, e2, fun v ρ1 H1 x1 s1 d1 => by
          rw [ed] at d1
          cases d1 with
          | loc l =>
            obtain ⟨vs, hvs, _⟩ := s1.lst ea l
            exact ⟨_, rfl, ⟨_, SqL.of hvs⟩, f _ ρ1 H1 x1 s1 (wd_loc l)⟩⟩
      · cases e4
    · cases e4
  | .rng1 e, tg, a, h => by
    simp only [ckI] at h
    split at h
    · rename_i x p0 y pos
      simp only [Bool.and_eq_true, decide_eq_true_eq] at h
      obtain ⟨⟨⟨h1, h2⟩, rfl⟩, h3⟩ := h
      obtain ⟨q1, q2, q3, q4⟩ := G.pre h3
      have p := pi_range1 (X := X) (tg := tg) (p := p0) (pos := pos) q1 q2 (pa_cons (sP G e y h1).1 pa_nil (headE_star _ _ _ h2)) (headE_star _ _ _ h2)
      refine ⟨fun pins s σ H R I q => p.run pins s σ H R I ?_⟩
      obtain ⟨ρ, env, st, r, hv, hs, e1, f⟩ := q
      simp only [evI] at e1
      obtain ⟨r1, e2, e3⟩ := Option.bind_eq_some_iff.mp e1
      refine ⟨ρ, env, st, r1, hv, hs, e2, fun v ρ1 H1 x1 s1 d1 => ?_⟩
      split at e3
      · rename_i j ej
        split at e3
        · rename_i hz
          cases e3
          rw [ej] at d1
          cases d1
          exact ⟨j, rfl, hz.1, hz.2, f _ ρ1 H1 x1 s1 wd_rng⟩
        · cases e3
      · cases e3
    · cases h
  | .rng2 e e', tg, a, h => by
    simp only [ckI] at h
    split at h
    · rename_i x p0 y z pos
      simp only [Bool.and_eq_true, decide_eq_true_eq] at h
      obtain ⟨⟨⟨⟨⟨h1, h2⟩, h4⟩, h5⟩, rfl⟩, h3⟩ := h
      obtain ⟨q1, q2, q3, q4⟩ := G.pre h3
      have p := pi_range2 (X := X) (tg := tg) (p := p0) (pos := pos) q1 q2 (pa_cons (sP G e y h1).1 (pa_cons (sP G e' z h4).1 pa_nil (headE_star _ _ _ h5)) (headE_star _ _ _ h2)) (by rw [headE_star _ _ _ h2, headE_star _ _ _ h5]; rfl) (headE_star _ _ _ h5)
      refine ⟨fun pins s σ H R I q => p.run pins s σ H R I ?_⟩
      obtain ⟨ρ, env, st, r, hv, hs, e1, f⟩ := q
      simp only [evI] at e1
      obtain ⟨r1, e2, e3⟩ := Option.bind_eq_some_iff.mp e1
      obtain ⟨r2, e4, e5⟩ := Option.bind_eq_some_iff.mp e3
      refine ⟨ρ, env, st, r1, hv, hs, e2, fun v ρ1 H1 x1 s1 d1 => ⟨ρ1, env, r1.2, r2, hv.mono x1, s1, e4, fun w ρ2 H2 x2 s2 d2 => ?_⟩⟩
      split at e5
      · rename_i i j ei ej
        split at e5
        · rename_i hz
          cases e5
          rw [ei] at d1
          rw [ej] at d2
          cases d1
          cases d2
          exact ⟨i, j, rfl, hz, f _ ρ2 H2 (x1.trans x2) s2 wd_rng⟩
        · cases e5
      · cases e5
    · cases h
  | .enu e, tg, a, h => by
    simp only [ckI] at h
    split at h
    · rename_i els kk tp x p0 y pos
      simp only [Bool.and_eq_true, decide_eq_true_eq] at h
      obtain ⟨⟨⟨h1, h2⟩, rfl⟩, h3⟩ := h
      obtain ⟨q1, q2, q3, q4⟩ := G.pre h3
      have pA := pa_cons (X := X) (sP G e y h1).1 pa_nil (headE_star _ _ _ h2)
      refine ⟨fun pins s σ H R I q => ?_⟩
      obtain ⟨ρ, env, st, r, hv, hs, e1, f⟩ := q
      simp only [evI] at e1
      obtain ⟨r1, e2, e3⟩ := Option.bind_eq_some_iff.mp e1
      split at e3
      · rename_i xs ed
        cases e3
        refine (pi_enuT (p := p0) (pos := pos) q1 q2 pA (headE_star _ _ _ h2)).run pins s σ H R I ⟨ρ, env, st, r1, hv, hs, e2, fun v ρ1 H1 x1 s1 d1 => ?_⟩
        rw [ed] at d1
        cases d1 with
        | tup a1 a2 => exact ⟨_, _, rfl, a1, f _ ρ1 H1 x1 s1 (wd_enuT a1 a2)⟩
      · rename_i m ed
        split at e3
        · rename_i xs ea
          cases e3
          refine (pi_enum (p := p0) (pos := pos) q1 q2 pA (headE_star _ _ _ h2)).run pins s σ H R I ⟨ρ, env, st, r1, hv, hs, e2, fun v ρ1 H1 x1 s1 d1 => ?_⟩
          rw [ed] at d1
          cases d1 with
          | loc l =>
            obtain ⟨vs, hvs, _⟩ := s1.lst ea l
            exact ⟨_, _, rfl, SqL.of hvs, f _ ρ1 H1 x1 s1 (wd_enuL l)⟩
        · cases e3
      · cases e3
    · cases h
  | .zip e e', tg, a, h => by
    simp only [ckI] at h
    split at h
    · rename_i els kk tp x p0 y z pos
      simp only [Bool.and_eq_true, decide_eq_true_eq] at h
      obtain ⟨⟨⟨⟨⟨h1, h2⟩, h4⟩, h5⟩, rfl⟩, h3⟩ := h
      obtain ⟨q1, q2, q3, q4⟩ := G.pre h3
      have pA := pa_cons (X := X) (sP G e y h1).1 (pa_cons (sP G e' z h4).1 pa_nil (headE_star _ _ _ h5)) (headE_star _ _ _ h2)
      have p := RZ.pi_zipA (X := X) (elts := els) (kk := kk) (tpos := tp) (p := p0) (pos := pos) q1 q2 pA (headE_star _ _ _ h2) (stars_plain X.env pos [z] fun b hb => by rw [List.mem_singleton.mp hb]; exact h5)
      refine ⟨fun pins s σ H R I q => p.run pins s σ H R I ?_⟩
      obtain ⟨ρ, env, st, r, hv, hs, e1, f⟩ := q
      simp only [evI] at e1
      obtain ⟨r1, e2, e3⟩ := Option.bind_eq_some_iff.mp e1
      obtain ⟨r2, e4, e5⟩ := Option.bind_eq_some_iff.mp e3
      refine ⟨ρ, env, st, r1, hv, hs, e2, fun v ρ1 H1 x1 s1 d1 => ⟨ρ1, env, r1.2, r2, hv.mono x1, s1, e4, fun w ρ2 H2 x2 s2 d2 => ?_⟩⟩
      split at e5
      · rename_i xs ys ei ej
        cases e5
        rw [ei] at d1
        rw [ej] at d2
        have d1' := d1.mono x2
        cases d1' with
        | tup a1 a2 =>
          cases d2 with
          | tup b1 b2 => exact ⟨_, _, _, _, rfl, .inr ⟨a1, b1, f _ ρ2 H2 (x1.trans x2) s2 (wd_zip a1 a2 b1 b2)⟩⟩
      · cases e5
    · cases h
end
end Iv
set_option Elab.async false
set_option linter.all false
set_option maxRecDepth 100000
set_option maxHeartbeats 8000000
namespace Iv
open PySem PySem.Spec PyProof.Rows L2
def tupE : Expr → Bool
  | .Tuple _ _ _ => true
  | _ => false
/-- two plain locals stored from the right -/
def swapOk (c : Cs) (x y : Str) (px py : Pos) (a b : Expr) : Bool :=
  decide (c.sc.names.lookup x = some .local) && decide (c.sc.names.lookup y = some .local) && decide (py.line = px.line) && decide (x ≠ y) && (match c.sc.kind with
    | .function => true
    | _ => false) && headE a && headE b && !([a, b].all (foldedForSure 8)) && !([a, b].all (constantsAlone 8))
mutual
def ckS (c : Cs) : S → Stmt → Bool
  | .set t e, u => match u with
    | .Assign [tg] v p => ckT c t tg && ckE c e v && (match tg with
      | .Name x px => (match v with
        | .ListComp x0 [⟨t0, i0, f0, 0⟩] scope pos => decide (c.sc.names.lookup x = some .local) && (px.line == pos.line) && !(scope.names.any fun (n, k) => n == x && (k == .local || k == .cell)) && (match c.sc.kind with
          | .function => true
          | _ => false)
        | _ => !compE v)
      | .Tuple _ _ _ => !tupE v && !compE v
      | _ => false)
    | _ => false
  | .par2 i j a b, u => match u with
    | .Assign [.Tuple [.Name x px, .Name y py] _ _] (.Tuple [p, q] _ _) _ => decide (c.N[i]? = some x) && decide (c.N[j]? = some y) && decide (i ≠ j) && ckE c a p && ckE c b q && swapOk c x y px py p q
    | _ => false
  | .seti o i e, u => match u with
    | .Assign [.Subscript x y _] v _ => ckE c e v && ckE c o x && ckE c i y && headE y && !compE v
    | _ => false
  | .aug i op e, u => match u with
    | .AugAssign (.Name x _) o v _ => decide (c.N[i]? = some x) && store c x && ckE c e v && decide (op = o) && (match op with
      | .Add => true
      | .Sub => true
      | _ => false)
    | _ => false
  | .ife d a b, u => match u with
    | .If t xs ys _ => ckE c d t && tst d && ckSs c a xs && ckSs c b ys
    | _ => false
  | .whl d b, u => match u with
    | .While t xs [] _ => ckE c d t && tst d && ckSs c b xs
    | _ => false
  | .loop t it b, u => match u with
    | .For tg ie xs [] _ => ckT c t tg && ckI c it tg ie && compI ie && ckSs c b xs
    | _ => false
  | .ret e, u => match u with
    | .Return (some v) _ => ckE c e v
    | _ => false
  | .retN, u => match u with
    | .Return none _ => true
    | _ => false
  | .exp e, u => match u with
    | .Expr v _ => ckE c e v && !compE v
    | _ => false
  | .brk, u => match u with
    | .Break _ => true
    | _ => false
  | .cnt, u => match u with
    | .Continue _ => true
    | _ => false
  | .pss, u => match u with
    | .Pass _ => true
    | _ => false
def ckSs (c : Cs) : Ss → List Stmt → Bool
  | .nil, l => match l with
    | [] => true
    | _ => false
  | .cons s ss, l => match l with
    | a :: as => ckS c s a && ckSs c ss as
    | _ => false
end
/-- the end of a statement -/
def FinS (K : PySem.W.Frag) (ρ : List Addr) (H : Hp) (o : O) (st : Sto) (Dn : Ends) : Prop :=
  match o with
  | .nx env => ∀ σ' ρ' H', Ext ρ ρ' H H' → RS K ρ' H' st → RV K ρ' H' σ' env → Dn.nx σ' H'
  | .rt d => ∀ v ρ' H', Ext ρ ρ' H H' → RS K ρ' H' st → RD K ρ' H' v d → Dn.rt v H'
  | .bk env => ∀ σ' ρ' H', Ext ρ ρ' H H' → RS K ρ' H' st → RV K ρ' H' σ' env → Dn.bk σ' H'
  | .ct env => ∀ σ' ρ' H', Ext ρ ρ' H H' → RS K ρ' H' st → RV K ρ' H' σ' env → Dn.ct σ' H'
theorem FinS.weak {K : PySem.W.Frag} {ρ ρ' : List Addr} {H H' : Hp} {o : O} {st : Sto} {Dn : Ends} (f : FinS K ρ H o st Dn) (x : Ext ρ ρ' H H') : FinS K ρ' H' o st Dn := by
  cases o with
  | nx env => exact fun σ ρ2 H2 y => f σ ρ2 H2 (x.trans y)
  | rt d => exact fun v ρ2 H2 y => f v ρ2 H2 (x.trans y)
  | bk env => exact fun σ ρ2 H2 y => f σ ρ2 H2 (x.trans y)
  | ct env => exact fun σ ρ2 H2 y => f σ ρ2 H2 (x.trans y)
section
variable (K : PySem.W.Frag) (g : Cfg)
def tS (s : S) : TS := fun Dn σ H => ∃ ρ env st r, RV K ρ H σ env ∧ RS K ρ H st ∧ evS g s env st = some r ∧ FinS K ρ H r.1 r.2 Dn
def tSs (s : Ss) : TS := fun Dn σ H => ∃ ρ env st r, RV K ρ H σ env ∧ RS K ρ H st ∧ evSs g s env st = some r ∧ FinS K ρ H r.1 r.2 Dn
end
section
variable {c : Cs} {g : Cfg} {n : Nat} {X : Cx}
theorem PS.imp {a : Stmt} {t t' : TS} (h : PS X a t) (i : ∀ Dn σ H, t' Dn σ H → t Dn σ H) : PS X a t' := ⟨fun pins s σ H Dn I q => h.run pins s σ H Dn I (i _ _ _ q)⟩
theorem tLc_mono {wi : TI} {gg : TG} {tt : TT} {te : TE} {vs : List Nat} {σ : L2.St} {H : Hp} {Q Q' : VK} (i : ∀ v H', Q v H' → Q' v H') (h : tLc wi gg tt te vs σ H Q) (mono : ∀ σ H (R R' : L2.It → Hp → Prop), (∀ J H', R J H' → R' J H') → wi σ H R → wi σ H R') : tLc wi gg tt te vs σ H Q' := by
  refine mono σ H _ _ (fun J H1 h1 A hA => ?_) h
  obtain ⟨W, w0, w⟩ := h1 A hA
  exact ⟨W, w0, fun j m H' hw => (w j m H' hw).imp (fun z => ⟨z.1, i _ _ z.2⟩) fun z => z⟩
theorem tI_mono {it : Iv.It} (K : PySem.W.Frag) : ∀ σ H (R R' : L2.It → Hp → Prop), (∀ J H', R J H' → R' J H') → tI K g it σ H R → tI K g it σ H R' :=
  fun σ H R R' i ⟨ρ, env, st, r, hv, hs, e, f⟩ => ⟨ρ, env, st, r, hv, hs, e, fun J ρ' H' x s w => i J H' (f J ρ' H' x s w)⟩
theorem no_swap {v : Expr} {o : Option Expr} {l : Nat} {env : PySem.Env} (h : compE v = false) : swapsWith v o l env = pure false := by
  cases v <;> first | rfl | (cases h; done)
theorem no_swapT {v : Expr} {l : Nat} {env : PySem.Env} {es : List Expr} {k : Nat} {p : Pos} (h : compE v = false) : swapsWithSole [.Tuple es k p] v l env = pure false := by
  cases v <;> first | rfl | (cases h; done)
theorem no_swapS {v x y : Expr} {l : Nat} {env : PySem.Env} {p : Pos} (h : compE v = false) : swapsWithSole [.Subscript x y p] v l env = pure false := by
  cases v <;> first | rfl | (cases h; done)
theorem no_stores {v : Expr} {env : PySem.Env} {es : List Expr} {k : Nat} {p : Pos} (h : tupE v = false) : swappedStores [.Tuple es k p] v env = pure none := by
  cases v <;> first | rfl | (cases h; done)
theorem no_storesS {v x y : Expr} {env : PySem.Env} {p : Pos} : swappedStores [.Subscript x y p] v env = pure none := by
  cases v <;> rfl
theorem swap_stores {env : PySem.Env} {x y : Str} {px py pt pt2 : Pos} {kt k2 : Nat} {a b : Expr} (hk : env.scope.kind = .function) (hx : env.scope.names.lookup x = some .local) (hy : env.scope.names.lookup y = some .local) (hl : py.line = px.line) (hne : x ≠ y)
    (ha : headE a = true) (hb : headE b = true) (h1 : [a, b].all (foldedForSure 8) = false) (h2 : [a, b].all (constantsAlone 8) = false) :
    swappedStores [.Tuple [.Name x px, .Name y py] kt pt] (.Tuple [a, b] k2 pt2) env = pure (some [x, y]) := by
  have hbk : env.blockKind = .function := by unfold Env.blockKind; rw [hk]; rfl
  have kx : env.kindOf x = some .local := hx
  have ky : env.kindOf y = some .local := hy
  have e1 : ((x == y) : Bool) = false := beq_eq_false_iff_ne.mpr hne
  have e2 : ((y == x) : Bool) = false := beq_eq_false_iff_ne.mpr (Ne.symm hne)
  unfold swappedStores
  simp only [hbk, List.filterMap_cons, List.filterMap_nil, kx, ky, hl, Expr.pos, List.head?_cons, Option.map_some, Option.getD_some, List.any_cons, List.any_nil, h1, h2, List.length_cons, List.length_nil]
  simp [List.eraseDups_cons, e1, e2, hne, Ne.symm hne]
  intro z
  rcases z with z | z
  · cases a <;> first | (cases z; done) | (cases ha; done)
  · cases b <;> first | (cases z; done) | (cases hb; done)
/-! ### loops -/
theorem for_read {t : T} {it : Iv.It} {b : Ss} {wi : TI} {gg : TG} {tb : TS} (hwi : ∀ σ H R, tI X.K g it σ H R → wi σ H R) (hgg : ∀ v σ H Q, gT X.K t v σ H Q → gg v σ H Q) (htb : ∀ Dn σ H, tSs X.K g b Dn σ H → tb Dn σ H) :
    ∀ Dn σ H, tS X.K g (.loop t it b) Dn σ H → tFor wi gg tb Dn σ H := by
  intro Dn σ H ⟨ρ, env, st, r, hv, hs, e, f⟩
  simp only [evS] at e
  obtain ⟨r1, e1, e2⟩ := Option.bind_eq_some_iff.mp e
  refine hwi σ H _ ⟨ρ, env, st, r1, hv, hs, e1, fun J ρ1 H1 x1 s1 wd => ?_⟩
  generalize hbody : (fun (x : D) (e : Env) (s : Sto) => (asg t x e).bind fun n => evSs g b n s) = body at e2
  refine ⟨fun i m σ' H' => m = r1.1.items.length - i ∧ i ≤ r1.1.items.length ∧ ∃ ρ' env' st', Ext ρ1 ρ' H1 H' ∧ RS X.K ρ' H' st' ∧ RV X.K ρ' H' σ' env' ∧ forL body r1.1 (r1.1.items.drop i) env' st' = some r, ⟨_, rfl, Nat.zero_le _, ρ1, env, r1.2, Ext.refl _ _, s1, hv.mono x1, by rw [List.drop_zero]; exact e2⟩, ?_⟩
  rintro i m σ' H' ⟨rfl, hi, ρ', env', st', x', s', v', e'⟩
  by_cases hlt : i < r1.1.items.length
  · rw [List.drop_eq_getElem_cons hlt] at e'
    simp only [forL] at e'
    split at e'
    · rename_i ok
      obtain ⟨q, eq, eq2⟩ := Option.bind_eq_some_iff.mp e'
      refine .inr ⟨wd.go i ρ' H' st' x' s' ok hlt, fun σ2 H'' => i + 1 ≤ r1.1.items.length ∧ ∃ ρ'' env'' st'', Ext ρ1 ρ'' H1 H'' ∧ RS X.K ρ'' H'' st'' ∧ RV X.K ρ'' H'' σ2 env'' ∧ forL body r1.1 (r1.1.items.drop (i + 1)) env'' st'' = some r, fun σ2 H'' ⟨h1, h2⟩ => ⟨_, by omega, rfl, h1, h2⟩, fun y H2 hy => ?_⟩
      obtain ⟨d, ed, xd, sd, rd⟩ := wd.yld i ρ' H' st' y H2 x' s' ok hlt hy
      have ed' : r1.1.items[i] = d := by rw [List.getElem?_eq_getElem hlt] at ed; exact Option.some.inj ed
      rw [ed', ← hbody] at eq
      obtain ⟨ea, q1, q2⟩ := Option.bind_eq_some_iff.mp eq
      refine hgg _ _ _ _ ⟨ρ', env', st', d, ea, v'.mono xd, sd, rd, q1, fun σ2 hv2 o2 => htb _ _ _ ⟨ρ', ea, st', q, hv2, sd, q2, ?_⟩⟩
      obtain ⟨oq, sq⟩ := q
      cases oq with
      | nx en => exact fun σ3 ρ3 H3 x3 s3 v3 => ⟨hlt, ρ3, en, sq, x'.trans (xd.trans x3), s3, v3, eq2⟩
      | ct en => exact fun σ3 ρ3 H3 x3 s3 v3 => ⟨hlt, ρ3, en, sq, x'.trans (xd.trans x3), s3, v3, eq2⟩
      | bk en =>
        cases eq2
        exact fun σ3 ρ3 H3 x3 s3 v3 => f σ3 ρ3 H3 (x1.trans (x'.trans (xd.trans x3))) s3 v3
      | rt dd =>
        cases eq2
        exact fun v ρ3 H3 x3 s3 d3 => f v ρ3 H3 (x1.trans (x'.trans (xd.trans x3))) s3 d3
    · cases e'
  · have ei : i = r1.1.items.length := by omega
    subst ei
    rw [List.drop_length] at e'
    simp only [forL] at e'
    split at e'
    · rename_i ok
      cases e'
      exact .inl ⟨wd.stop ρ' H' _ x' s' ok, f σ' ρ' H' (x1.trans x') s' v'⟩
    · cases e'
theorem whl_read {d : E} {b : Ss} {tc : TT} {tb : TS} (htc : ∀ σ H Q, tT X.K g d σ H Q → tc σ H Q) (htb : ∀ Dn σ H, tSs X.K g b Dn σ H → tb Dn σ H) : ∀ Dn σ H, tS X.K g (.whl d b) Dn σ H → tWhile tc tb Dn σ H := by
  intro Dn σ H ⟨ρ, env, st, r, hv, hs, e, f⟩
  simp only [evS] at e
  generalize hc : (fun (e : Env) (s : Sto) => (evE g d e s).bind fun r => (asB r.1).map fun k => (k, r.2)) = cc at e
  generalize hbody : (fun (e : Env) (s : Sto) => evSs g b e s) = body at e
  refine ⟨fun m σ' H' => ∃ ρ' env' st', Ext ρ ρ' H H' ∧ RS X.K ρ' H' st' ∧ RV X.K ρ' H' σ' env' ∧ whL cc body m env' st' = some r, ⟨g.W, ρ, env, st, Ext.refl _ _, hs, hv, e⟩, ?_⟩
  rintro m σ' H' ⟨ρ', env', st', x', s', v', e'⟩
  cases m with
  | zero => simp [whL] at e'
  | succ k =>
    simp only [whL] at e'
    obtain ⟨q, eq, eq2⟩ := Option.bind_eq_some_iff.mp e'
    rw [← hc] at eq
    obtain ⟨r1, e1, e2⟩ := Option.bind_eq_some_iff.mp eq
    obtain ⟨kk, e3, rfl⟩ := Option.map_eq_some_iff.mp e2
    refine htc _ _ _ ⟨ρ', env', st', r1, kk, v', s', e1, e3, fun ρ1 H1 x1 s1 => ?_⟩
    cases kk with
    | true =>
      rw [if_pos rfl]
      obtain ⟨q2, e4, e5⟩ := Option.bind_eq_some_iff.mp eq2
      rw [← hbody] at e4
      refine ⟨fun σ2 H2 => ∃ ρ' env' st', Ext ρ ρ' H H2 ∧ RS X.K ρ' H2 st' ∧ RV X.K ρ' H2 σ2 env' ∧ whL cc body k env' st' = some r, fun σ2 H2 h2 => ⟨k, Nat.lt_succ_self k, h2⟩, htb _ _ _ ⟨ρ1, env', r1.2, q2, v'.mono x1, s1, e4, ?_⟩⟩
      obtain ⟨oq, sq⟩ := q2
      cases oq with
      | nx en => exact fun σ3 ρ3 H3 x3 s3 v3 => ⟨ρ3, en, sq, x'.trans (x1.trans x3), s3, v3, e5⟩
      | ct en => exact fun σ3 ρ3 H3 x3 s3 v3 => ⟨ρ3, en, sq, x'.trans (x1.trans x3), s3, v3, e5⟩
      | bk en =>
        cases e5
        exact fun σ3 ρ3 H3 x3 s3 v3 => f σ3 ρ3 H3 (x'.trans (x1.trans x3)) s3 v3
      | rt dd =>
        cases e5
        exact fun v ρ3 H3 x3 s3 d3 => f v ρ3 H3 (x'.trans (x1.trans x3)) s3 d3
    | false =>
      rw [if_neg Bool.false_ne_true]
      cases eq2
      exact f σ' ρ1 H1 (x'.trans x1) s1 (v'.mono x1)
theorem ite_read {d : E} {a b : Ss} {tc : TT} {ta tb : TS} (htc : ∀ σ H Q, tT X.K g d σ H Q → tc σ H Q) (hta : ∀ Dn σ H, tSs X.K g a Dn σ H → ta Dn σ H) (htb : ∀ Dn σ H, tSs X.K g b Dn σ H → tb Dn σ H) : ∀ Dn σ H, tS X.K g (.ife d a b) Dn σ H → tIfS tc ta tb Dn σ H := by
  intro Dn σ H ⟨ρ, env, st, r, hv, hs, e, f⟩
  simp only [evS] at e
  obtain ⟨r1, e1, e2⟩ := Option.bind_eq_some_iff.mp e
  obtain ⟨k, e3, e4⟩ := Option.bind_eq_some_iff.mp e2
  refine htc _ _ _ ⟨ρ, env, st, r1, k, hv, hs, e1, e3, fun ρ1 H1 x1 s1 => ?_⟩
  cases k with
  | true =>
    rw [if_pos rfl] at e4 ⊢
    exact hta _ _ _ ⟨ρ1, env, r1.2, r, hv.mono x1, s1, e4, f.weak x1⟩
  | false =>
    rw [if_neg Bool.false_ne_true] at e4 ⊢
    exact htb _ _ _ ⟨ρ1, env, r1.2, r, hv.mono x1, s1, e4, f.weak x1⟩
theorem passes (G : Gd c g n X) : PassesOwn (model X.prog X.w) X.A X.env X.xe := by
  rw [G.xe]; exact PassesOwn.never
mutual
theorem sS (G : Gd c g n X) : ∀ (s : S) (u : Stmt), ckS c s u = true → PS X u (tS X.K g s)
  | .set t e, u, h => by
    simp only [ckS] at h
    split at h
    · rename_i tg v p
      simp only [Bool.and_eq_true] at h
      obtain ⟨⟨h1, h2⟩, h3⟩ := h
      have hE := (sP G e v h2).1
      have rd : ∀ Dn σ H, tS X.K g (.set t e) Dn σ H → tE X.K g e σ H (fun x H1 => gT X.K t x σ H1 Dn.nx) := fun Dn σ H ⟨ρ, env, st, r, hv, hs, e0, f⟩ => by
        simp only [evS] at e0
        obtain ⟨r1, e1, e2⟩ := Option.bind_eq_some_iff.mp e0
        obtain ⟨en, e3, rfl⟩ := Option.map_eq_some_iff.mp e2
        exact ⟨ρ, env, st, r1, hv, hs, e1, fun v ρ1 H1 x1 s1 d1 => ⟨ρ1, env, r1.2, r1.1, en, hv.mono x1, s1, d1, e3, fun σ2 hv2 _ => f σ2 ρ1 H1 x1 s1 hv2⟩⟩
      split at h3
      · rename_i x px
        -- a name
        cases t with
        | tp _ => simp [ckT] at h1
        | nm i =>
          have hT := h1
          simp only [ckT, Bool.and_eq_true, decide_eq_true_eq] at h1
          obtain ⟨l1, l2⟩ := G.loc h1.2
          have toName : ∀ x0 σ H Q, gT X.K (.nm i) x0 σ H Q → gName i x0 σ H Q := fun x0 σ H Q ⟨ρ, env, st, d, env', hv, hs, hd, ea, f⟩ => by
            simp only [asg] at ea
            split at ea
            · rename_i hi
              cases ea
              exact f _ (hv.set hi hd) ⟨by simp, fun j hj => List.getElem?_set_ne fun z => hj (by rw [z]; exact List.mem_singleton.mpr rfl)⟩
            · cases ea
          split at h3
          · rename_i x0 t0 i0 f0 scope pos
            simp only [Bool.and_eq_true, decide_eq_true_eq, Bool.not_eq_true'] at h3
            obtain ⟨⟨⟨k1, k2⟩, k3⟩, k4⟩ := h3
            cases e with
            | lc elt tg it cs own =>
              simp only [ckE, Bool.and_eq_true] at h2
              obtain ⟨⟨⟨⟨⟨⟨⟨⟨q1, q2⟩, q3⟩, q4⟩, q5⟩, q6⟩, q7⟩, q8⟩, q9⟩ := h2
              have hI := sI G it t0 i0 q1
              have ok : BlkOk X.N X.env.scope scope (own.map fun i => ((c.N[i]?).getD (Str.ofString ""), i)) := by
                rw [G.N, G.sc]; exact blkOk_by q2
              have ow : (own.map fun i => ((c.N[i]?).getD (Str.ofString ""), i)).map (·.2) = own := by
                rw [List.map_map]
                exact List.map_id _
              have hsl : ∀ i ∈ tg.sl, i ∈ own := fun i hi => of_decide_eq_true (List.all_eq_true.mp q9 i hi)
              have kk : X.env.scope.kind = .function := by
                rw [G.sc]
                split at k4
                · assumption
                · cases k4
              have kl : X.env.scope.names.lookup x = some .local := by rw [G.sc]; exact k1
              have pp := ps_setLc (X := X) (py := px) (pos := pos) (spos := p) (g := gT X.K tg) (tt := tTs X.K g cs) (te := tE X.K g elt) G.calm (by rw [G.N]; exact G.nd) (by rw [G.N]; exact h1.1) kl (sw_true kk kl k2 k3) hI ok
                (fun s H C cl fp => sT (G.blk s H scope C cl fp) tg t0 q3) (fun s H C cl fp => sTs1 (G.blk s H scope C cl fp) cs f0 q5 q6 q7) (fun s H C cl fp => (sP (G.blk s H scope C cl fp) elt x0 q4).1) (fold_it q8)
              rw [ow] at pp
              refine PS.imp pp fun Dn σ H q => ?_
              have q' := rd Dn σ H q
              have q'' := lc_read (wi := tI X.K g it) (gg := gT X.K tg) (tt := tTs X.K g cs) (te := tE X.K g elt) (fun _ _ _ q => q) (fun _ _ _ _ q => q) (fun _ _ _ q => q) (fun _ _ _ q => q) hsl σ H _ q'
              exact tLc_mono (fun v H' z => toName v σ H' _ z) q'' (tI_mono X.K)
            | _ => simp [ckE] at h2
          · have hc : compE v = false := by simpa using h3
            refine PS.imp (ps_set (X := X) (pos' := px) (pos := p) (by rw [G.N]; exact G.nd) (by rw [G.N]; exact h1.1) l1 hE (no_swap hc) l2) fun Dn σ H q => ?_
            obtain ⟨ρ, env, st, r, hv, hs, e1, f⟩ := rd Dn σ H q
            exact ⟨ρ, env, st, r, hv, hs, e1, fun v ρ1 H1 x1 s1 d1 => toName v σ H1 _ (f v ρ1 H1 x1 s1 d1)⟩
      · rename_i es k pt
        simp only [Bool.and_eq_true, Bool.not_eq_true'] at h3
        have hG := sT G t (.Tuple es k pt) h1
        exact PS.imp (ps_asg (X := X) (pos := p) hE hG (no_swapT h3.2) (no_stores h3.1) rfl) rd
      · cases h3
    · cases h
  | .par2 i j a b, u, h => by
    simp only [ckS] at h
    split at h
    · rename_i x px y py kt pt p0 q0 k2 pt2 ps
      simp only [Bool.and_eq_true, decide_eq_true_eq] at h
      obtain ⟨⟨⟨⟨⟨h1, h2⟩, h3⟩, h4⟩, h5⟩, h6⟩ := h
      unfold swapOk at h6
      simp only [Bool.and_eq_true, decide_eq_true_eq, Bool.not_eq_true'] at h6
      obtain ⟨⟨⟨⟨⟨⟨⟨⟨w1, w2⟩, w3⟩, w4⟩, w5⟩, w6⟩, w7⟩, w8⟩, w9⟩ := h6
      have kk : X.env.scope.kind = .function := by
        rw [G.sc]
        split at w5
        · assumption
        · cases w5
      have kx : X.env.scope.names.lookup x = some .local := by rw [G.sc]; exact w1
      have ky : X.env.scope.names.lookup y = some .local := by rw [G.sc]; exact w2
      have hA : PA X [p0, q0] (tCons (tE X.K g a) (tCons (tE X.K g b) tNil)) := pa_cons (sP G a p0 h4).1 (pa_cons (sP G b q0 h5).1 pa_nil (headE_star _ _ _ w7)) (headE_star _ _ _ w6)
      refine PS.imp (ps_par (X := X) (px := px) (py := py) (pt := pt) (kt := kt) (k2 := k2) (pt2 := pt2) (pos := ps) G.calm (by rw [G.N]; exact G.nd) (by rw [G.N]; exact h1) (by rw [G.N]; exact h2) h3 kx ky hA (swap_stores kk kx ky w3 w4 w6 w7 w8 w9)
        (no_swapT rfl)) fun Dn σ H ⟨ρ, env, st, r, hv, hs, e, f⟩ => ?_
      simp only [evS] at e
      obtain ⟨r1, e1, e2⟩ := Option.bind_eq_some_iff.mp e
      obtain ⟨r2, e3, e4⟩ := Option.bind_eq_some_iff.mp e2
      split at e4
      · rename_i hz
        cases e4
        exact ⟨ρ, env, st, r1, hv, hs, e1, fun v ρ1 H1 x1 s1 d1 => ⟨ρ1, env, r1.2, r2, hv.mono x1, s1, e3, fun w ρ2 H2 x2 s2 d2 => ⟨v, w, rfl, f _ ρ2 H2 (x1.trans x2) s2 ((((hv.mono x1).mono x2).set hz.1 (d1.mono x2)).set (by rw [List.length_set]; exact hz.2) d2)⟩⟩⟩
      · cases e4
    · cases h
  | .seti o i e, u, h => by
    simp only [ckS] at h
    split at h
    · rename_i x y p0 v p1
      simp only [Bool.and_eq_true, Bool.not_eq_true'] at h
      obtain ⟨⟨⟨⟨h1, h2⟩, h3⟩, h4⟩, h5⟩ := h
      have hG := pg_sub (X := X) (pos := p0) (sP G o x h2).1 (sP G i y h3).1 opSet_ok (by intro w; cases y <;> first | rfl | (cases h4; done))
      refine PS.imp (ps_asg (X := X) (pos := p1) (sP G e v h1).1 hG (no_swapS h5) no_storesS rfl) fun Dn σ H ⟨ρ, env, st, r, hv, hs, e0, f⟩ => ?_
      simp only [evS] at e0
      obtain ⟨r1, e1, e2⟩ := Option.bind_eq_some_iff.mp e0
      obtain ⟨r2, e3, e4⟩ := Option.bind_eq_some_iff.mp e2
      obtain ⟨r3, e5, e6⟩ := Option.bind_eq_some_iff.mp e4
      obtain ⟨sf, e7, rfl⟩ := Option.map_eq_some_iff.mp e6
      exact ⟨ρ, env, st, r1, hv, hs, e1, fun v ρ1 H1 x1 s1 d1 => ⟨ρ1, env, r1.2, r2, hv.mono x1, s1, e3, fun w ρ2 H2 x2 s2 d2 => ⟨ρ2, env, r2.2, r3, (hv.mono x1).mono x2, s2, e5, fun z ρ3 H3 x3 s3 d3 =>
        ⟨ρ3, r3.2, r2.1, r3.1, r1.1, sf, s3, d2.mono x3, d3, (d1.mono x2).mono x3, e7, fun ρ4 H4 x4 s4 => f σ ρ4 H4 (x1.trans (x2.trans (x3.trans x4))) s4 ((((hv.mono x1).mono x2).mono x3).mono x4)⟩⟩⟩⟩
    · cases h
  | .aug i op e, u, h => by
    simp only [ckS] at h
    split at h
    · rename_i x px o v p
      simp only [Bool.and_eq_true, decide_eq_true_eq] at h
      obtain ⟨⟨⟨⟨h1, h2⟩, h3⟩, h4⟩, h5⟩ := h
      subst h4
      obtain ⟨l1, l2⟩ := G.loc h2
      have hE := (sP G e v h3).1
      have nd : X.N.Nodup := by rw [G.N]; exact G.nd
      have hi : X.N[i]? = some x := by rw [G.N]; exact h1
      cases op with
      | Add =>
        refine PS.imp (ps_aug (X := X) (pos' := px) (pos := p) nd hi l1 hE ip_add l2) fun Dn σ H ⟨ρ, env, st, r, hv, hs, e0, f⟩ => ?_
        simp only [evS] at e0
        obtain ⟨d, e1, e2⟩ := Option.bind_eq_some_iff.mp e0
        obtain ⟨r1, e3, e4⟩ := Option.bind_eq_some_iff.mp e2
        have ed : env[i]? = some (some d) := Option.join_eq_some_iff.mp e1
        obtain ⟨w, q1, q2⟩ := hv.get i d ed
        have hl : i < env.length := (List.getElem?_eq_some_iff.mp ed).1
        refine ⟨w, q1, ρ, env, st, r1, hv, hs, e3, fun z ρ1 H1 x1 s1 d1 => ?_⟩
        split at e4
        · rename_i aa bb _ eb
          cases e4
          cases q2
          rw [eb] at d1
          cases d1
          exact ⟨aa, bb, rfl, rfl, f _ ρ1 H1 x1 s1 ((hv.mono x1).set hl (.int _))⟩
        · exact absurd (by assumption : Operator.Add = Operator.Sub) (by decide)
        · cases e4
      | Sub =>
        refine PS.imp (ps_aug (X := X) (pos' := px) (pos := p) nd hi l1 hE ip_sub l2) fun Dn σ H ⟨ρ, env, st, r, hv, hs, e0, f⟩ => ?_
        simp only [evS] at e0
        obtain ⟨d, e1, e2⟩ := Option.bind_eq_some_iff.mp e0
        obtain ⟨r1, e3, e4⟩ := Option.bind_eq_some_iff.mp e2
        have ed : env[i]? = some (some d) := Option.join_eq_some_iff.mp e1
        obtain ⟨w, q1, q2⟩ := hv.get i d ed
        have hl : i < env.length := (List.getElem?_eq_some_iff.mp ed).1
        refine ⟨w, q1, ρ, env, st, r1, hv, hs, e3, fun z ρ1 H1 x1 s1 d1 => ?_⟩
        split at e4
        · exact absurd (by assumption : Operator.Sub = Operator.Add) (by decide)
        · rename_i aa bb _ eb
          cases e4
          cases q2
          rw [eb] at d1
          cases d1
          exact ⟨aa, bb, rfl, rfl, f _ ρ1 H1 x1 s1 ((hv.mono x1).set hl (.int _))⟩
        · cases e4
      | _ => cases h5
    · cases h
  | .ife d a b, u, h => by
    simp only [ckS] at h
    split at h
    · rename_i t xs ys p
      simp only [Bool.and_eq_true] at h
      obtain ⟨⟨⟨h1, h2⟩, h3⟩, h4⟩ := h
      exact PS.imp (ps_if (X := X) (pos := p) ((sP G d t h1).2 h2) (sSs G a xs h3) (sSs G b ys h4)) (ite_read (fun _ _ _ q => q) (fun _ _ _ q => q) fun _ _ _ q => q)
    · cases h
  | .whl d b, u, h => by
    simp only [ckS] at h
    split at h
    · rename_i t xs p
      simp only [Bool.and_eq_true] at h
      obtain ⟨⟨h1, h2⟩, h3⟩ := h
      exact PS.imp (ps_while (X := X) (pos := p) (passes G) ((sP G d t h1).2 h2) (sSs G b xs h3)) (whl_read (fun _ _ _ q => q) fun _ _ _ q => q)
    · cases h
  | .loop t it b, u, h => by
    simp only [ckS] at h
    split at h
    · rename_i tg ie xs p
      simp only [Bool.and_eq_true] at h
      obtain ⟨⟨⟨h1, h2⟩, h3⟩, h4⟩ := h
      exact PS.imp (ps_for (X := X) (pos := p) (passes G) G.calm (sI G it tg ie h2) (sT G t tg h1) (sSs G b xs h4) (fold_it h3)) (for_read (fun _ _ _ q => q) (fun _ _ _ _ q => q) fun _ _ _ q => q)
    · cases h
  | .ret e, u, h => by
    simp only [ckS] at h
    split at h
    · rename_i v p
      refine PS.imp (ps_ret (X := X) (pos := p) (sP G e v h).1) fun Dn σ H ⟨ρ, env, st, r, hv, hs, e0, f⟩ => ?_
      simp only [evS] at e0
      obtain ⟨r1, e1, rfl⟩ := Option.map_eq_some_iff.mp e0
      exact ⟨ρ, env, st, r1, hv, hs, e1, fun v ρ1 H1 x1 s1 d1 => f v ρ1 H1 x1 s1 d1⟩
    · cases h
  | .retN, u, h => by
    simp only [ckS] at h
    split at h
    · rename_i p
      refine PS.imp (ps_retN (X := X) (pos := p)) fun Dn σ H ⟨ρ, env, st, r, hv, hs, e0, f⟩ => ?_
      simp only [evS] at e0
      cases e0
      exact f _ ρ H (Ext.refl _ _) hs .non
    · cases h
  | .exp e, u, h => by
    simp only [ckS] at h
    split at h
    · rename_i v p
      simp only [Bool.and_eq_true, Bool.not_eq_true'] at h
      refine PS.imp (ps_expr (X := X) (pos := p) (sP G e v h.1).1 (no_swap h.2)) fun Dn σ H ⟨ρ, env, st, r, hv, hs, e0, f⟩ => ?_
      simp only [evS] at e0
      obtain ⟨r1, e1, rfl⟩ := Option.map_eq_some_iff.mp e0
      exact ⟨ρ, env, st, r1, hv, hs, e1, fun v ρ1 H1 x1 s1 d1 => f σ ρ1 H1 x1 s1 (hv.mono x1)⟩
    · cases h
  | .brk, u, h => by
    simp only [ckS] at h
    split at h
    · rename_i p
      refine PS.imp (ps_break (X := X) (pos := p)) fun Dn σ H ⟨ρ, env, st, r, hv, hs, e0, f⟩ => ?_
      simp only [evS] at e0
      cases e0
      exact f σ ρ H (Ext.refl _ _) hs hv
    · cases h
  | .cnt, u, h => by
    simp only [ckS] at h
    split at h
    · rename_i p
      refine PS.imp (ps_continue (X := X) (pos := p)) fun Dn σ H ⟨ρ, env, st, r, hv, hs, e0, f⟩ => ?_
      simp only [evS] at e0
      cases e0
      exact f σ ρ H (Ext.refl _ _) hs hv
    · cases h
  | .pss, u, h => by
    simp only [ckS] at h
    split at h
    · rename_i p
      refine PS.imp (ps_pass (X := X) (pos := p)) fun Dn σ H ⟨ρ, env, st, r, hv, hs, e0, f⟩ => ?_
      simp only [evS] at e0
      cases e0
      exact f σ ρ H (Ext.refl _ _) hs hv
    · cases h
theorem sSs (G : Gd c g n X) : ∀ (ss : Ss) (us : List Stmt), ckSs c ss us = true → PSs X us (tSs X.K g ss)
  | .nil, us, h => by
    simp only [ckSs] at h
    split at h
    · refine ⟨fun pins s σ H Dn I q => pss_nil.run pins s σ H Dn I ?_⟩
      obtain ⟨ρ, env, st, r, hv, hs, e0, f⟩ := q
      simp only [evSs] at e0
      cases e0
      exact f σ ρ H (Ext.refl _ _) hs hv
    · cases h
  | .cons s ss, us, h => by
    simp only [ckSs] at h
    split at h
    · rename_i a as
      simp only [Bool.and_eq_true] at h
      have p := pss_cons (X := X) (sS G s a h.1) (sSs G ss as h.2)
      refine ⟨fun pins s0 σ H Dn I q => p.run pins s0 σ H Dn I ?_⟩
      obtain ⟨ρ, env, st, r, hv, hs, e0, f⟩ := q
      simp only [evSs] at e0
      obtain ⟨r1, e1, e2⟩ := Option.bind_eq_some_iff.mp e0
      refine ⟨ρ, env, st, r1, hv, hs, e1, ?_⟩
      obtain ⟨o1, s1⟩ := r1
      cases o1 with
      | nx en => exact fun σ2 ρ1 H1 x1 s2 v2 => ⟨ρ1, en, s1, r, v2, s2, e2, f.weak x1⟩
      | rt d => cases e2; exact fun v ρ1 H1 x1 s2 d2 => f v ρ1 H1 x1 s2 d2
      | bk en => cases e2; exact fun σ2 ρ1 H1 x1 s2 v2 => f σ2 ρ1 H1 x1 s2 v2
      | ct en => cases e2; exact fun σ2 ρ1 H1 x1 s2 v2 => f σ2 ρ1 H1 x1 s2 v2
    · cases h
end
end
end Iv
set_option Elab.async false
set_option linter.all false
set_option maxRecDepth 100000
set_option maxHeartbeats 8000000
namespace Iv
open PySem PySem.Spec PyProof.Rows L2
/-! ### a def by its body -/
def scopeC (N ps : List Str) (sc : Scope) : Bool :=
  (match sc.kind with
    | .function => true
    | _ => false) && !sc.isCoroutine && !sc.isGenerator && decide N.Nodup && decide (N.take ps.length = ps) && ps.all (fun x => match sc.names.lookup x with
    | some .local => true
    | some .cell => true
    | _ => false) && sc.names.all (fun y => match y.2 with
    | .free => false
    | _ => true)
theorem scopeC_ok {N ps : List Str} {sc : Scope} (h : scopeC N ps sc = true) : FnScope N ps sc := by
  unfold scopeC at h
  simp only [Bool.and_eq_true, Bool.not_eq_true', decide_eq_true_eq, List.all_eq_true] at h
  obtain ⟨⟨⟨⟨⟨⟨h1, h2⟩, h3⟩, h4⟩, h5⟩, h6⟩, h7⟩ := h
  refine ⟨?_, h2, h3, h4, h5, fun x hx => ?_, fun y hy e => ?_⟩
  · split at h1
    · assumption
    · cases h1
  · have q := h6 x hx
    split at q
    · left; assumption
    · right; assumption
    · cases q
  · have q := h7 y hy
    rw [e] at q
    cases q
section
variable {P : Program} {w : World} {K : PySem.W.Frag} {mg : Str → Option Value} {base : Heap}
theorem FnG.of {k : Nat} {x qual : Str} {st : Stmt} {f : Addr} {fd : FuncData} {N ps : List Str} {sp : Sp} (F : Fun K x qual st f fd) (S : FnScope N ps (defScope st)) (len : ∀ vs H Q E, sp vs H Q E → vs.length = ps.length)
    (body : ∀ (cdv : Value) (A : Around) (out : List PySem.Env) (s : Shared) (H : Hp) (vs : List V) (Q : VK) (E : XK), A.guards = some [] → Room k (A.deeper (envOfC qual (defScope st) s.heap.objs.size f cdv)) → sp vs H Q E →
      ∃ t, PSs (cxOf CX0 P w K mg base N qual (defScope st) f cdv A out s H E).nox (defBody st) t ∧ t { nx := fun _ H' => Q .non H', rt := Q } (start N vs) H) : FnG P w K mg base (k + 1) f fd ps sp := by
  obtain ⟨oc, od, kV, dc, pm, an, cdv, ct, osl, rfl, lk, hcd⟩ := F.ex
  refine ⟨len, fun A out s H args us vs Q E gd hr e0 hb r hsp => ?_⟩
  have hKs : K.In s.heap := e0.mod.kin.keeps fun b o e => (e0.bs b o e).1
  have lim : s.heap.NoLimit := e0.mod.nolimit.keeps fun b o e => (e0.bs b o e).1
  have kinds : ∀ y ∈ ps.zip us, (defScope st).names.lookup y.1 = some .local ∨ ((defScope st).names.lookup y.1 = some .cell ∧ ((cellsFrom (s.heap.objs.size + 1) (defScope st).names []).lookup y.1).isSome = true) := by
    rintro ⟨nm, v⟩ hy
    exact (S.par nm (List.of_mem_zip hy).1).imp id fun q => ⟨q, PySem.W.cellsFrom_some _ _ _ (.inl q)⟩
  refine codeAny_call_function hr.depth (hKs _ _ lk) rfl S.co S.gen rfl (PySem.W.codeRec_of hKs hcd) (hb _ _ _ _ ?_)
  refine wpAny_newFunctionEnv_cells S.kind kinds fun env he s1 ic => ?_
  subst he
  refine ⟨lim.keeps ic.toInCall.keep, codeAny_func ?_⟩
  obtain ⟨t, ht, hq⟩ := body cdv A out s H vs Q E gd (hr.deeper _) hsp
  have I := inv_start (CX := CX0) (E := E) S hr.hd e0 (len _ _ _ _ hsp) r ic
  refine wpAny_mono (ht.nox.run [] s1 (start N vs) H _ I hq) (fun fl s' hs => ?_) fun e s' hs => hs
  cases fl with
  | ret u =>
    obtain ⟨v, σ', H', J, rv, q⟩ := hs
    exact ⟨v, H', J.os, J.bare, J.base, J.hok, rv, q⟩
  | next =>
    obtain ⟨σ', H', J, q⟩ := hs
    exact ⟨V.non, H', J.os, J.bare, J.base, J.hok, rfl, q⟩
  | brk => exact hs.elim fun _ z => z.elim fun _ z => z.2.elim
  | cont => exact hs.elim fun _ z => z.elim fun _ z => z.2.elim
end
/-! ### the program -/
structure FR where
  x : Str
  ps : List Str
  N : List Str
  st : Stmt
  body : Ss
structure Pr where
  fs : List FR
  gl : List Str
  bn : List Str
  kw : List (Nat × Nat × List Str × List Nat)
  G : Nat → Option D
  W : Nat
def Pr.pg (p : Pr) : Pg := ⟨p.fs.map fun r => ⟨r.ps.length, r.N.length, r.body⟩, p.G, fun k => ((p.kw[k]?).map fun q => (q.1, q.2.2.2)).getD (0, []), p.W⟩
def Pr.cs (p : Pr) (r : FR) : Cs := ⟨r.N, defScope r.st, true, p.fs.map fun r => (r.x, r.ps), p.gl, p.bn, p.kw⟩
def Pr.ok1 (p : Pr) (r : FR) : Bool := scopeC r.N r.ps (defScope r.st) && ckSs (p.cs r) r.body (defBody r.st) && decide (r.ps.length ≤ r.N.length)
/-- what the top has left of it -/
structure PF (p : Pr) (K : PySem.W.Frag) (mg : Str → Option Value) (adr : Nat → Addr) (fd : Nat → FuncData) : Prop where
  fns : ∀ (j : Nat) r, p.fs[j]? = some r → p.ok1 r = true ∧ mg r.x = some (.ref (adr j)) ∧ Fun K r.x r.x r.st (adr j) (fd j) ∧ Binds K (fd j) r.ps [] ∧ ∀ (k : Nat) q, p.kw[k]? = some q → q.1 = j → KB K (fd j) r.ps q.2.1 q.2.2.1 q.2.2.2
  bn : ∀ x ∈ p.bn, mg x = none
  gl : ∀ (j : Nat) (x : Str), p.gl[j]? = some x → ∃ u v d, mg x = some u ∧ RelV v u ∧ p.G j = some d ∧ ∀ ρ H, RD K ρ H v d
theorem start_RV {K : PySem.W.Frag} {ρ : List Addr} {H : Hp} {vs : List V} {ds : List D} (N : List Str) (h : RDs K ρ H vs ds) : RV K ρ H (start N vs) (ds.map some ++ List.replicate (N.length - ds.length) none) := by
  refine ⟨by unfold L2.start; rw [List.length_append, List.length_append, List.length_map, List.length_map, List.length_replicate, List.length_replicate, h.length], fun i d e => ?_⟩
  by_cases hi : i < ds.length
  · rw [List.getElem?_append_left (by rw [List.length_map]; exact hi), List.getElem?_map] at e
    obtain ⟨d', e1, e2⟩ := Option.map_eq_some_iff.mp e
    cases e2
    obtain ⟨v, q1, q2⟩ := h.get e1
    refine ⟨v, ?_, q2⟩
    unfold L2.start
    rw [List.getElem?_append_left (by rw [List.length_map, h.length]; exact hi), List.getElem?_map, q1]
    rfl
  · rw [List.getElem?_append_right (by rw [List.length_map]; omega), List.getElem?_replicate] at e
    split at e <;> cases e
theorem prog_ok {p : Pr} {P : Program} {w : World} {K : PySem.W.Frag} {mg : Str → Option Value} {base : Heap} {adr : Nat → Addr} {fd : Nat → FuncData} (T : PF p K mg adr fd) :
    ∀ (n j : Nat) (r : FR), p.fs[j]? = some r → FnG P w K mg base n (adr j) (fd j) r.ps (spF K (run p.pg n) j r.ps)
  | 0, j, r, _ => ⟨fun vs H Q E ⟨_, _, _, _, h, _⟩ => h, fun A out s H args us vs Q E _ _ _ _ _ ⟨_, _, _, _, _, _, _, e, _⟩ => by simp [run] at e⟩
  | n + 1, j, r, hj => by
    obtain ⟨t1, t2, t3, t4, _⟩ := T.fns j r hj
    unfold Pr.ok1 at t1
    simp only [Bool.and_eq_true, decide_eq_true_eq] at t1
    obtain ⟨⟨t5, t6⟩, t7⟩ := t1
    have S := scopeC_ok t5
    refine FnG.of t3 S (fun vs H Q E ⟨_, _, _, _, h, _⟩ => h) fun cdv A out s H vs Q E gd hr hsp => ?_
    have G : Gd (p.cs r) ⟨run p.pg n, p.pg.G, p.pg.KW, p.pg.W⟩ n (cxOf CX0 P w K mg base r.N r.x (defScope r.st) (adr j) cdv A out s H E).nox := {
      N := rfl
      sc := rfl
      nd := S.nd
      calm := rfl
      gu := gd
      room := hr
      body := fun _ _ => rfl
      xe := rfl
      fn := fun f x ps hf => by
        have hf' : (p.fs.map fun r => (r.x, r.ps))[f]? = some (x, ps) := hf
        rw [List.getElem?_map] at hf'
        obtain ⟨r', e1, e2⟩ := Option.map_eq_some_iff.mp hf'
        cases e2
        obtain ⟨_, u2, u3, u4, u5⟩ := T.fns f r' e1
        exact ⟨adr f, fd f, u2, u3.kp, u4, prog_ok T n f r' e1, fun k q hk hq => ⟨by
          have hk' : p.kw[k]? = some q := hk
          show ((p.kw[k]?).map fun q => (q.1, q.2.2.2)).getD (0, []) = _
          rw [hk', ← hq]; rfl, u5 k q hk hq⟩⟩
      bn := T.bn
      gl := T.gl }
    refine ⟨_, sSs G r.body (defBody r.st) t6, ?_⟩
    obtain ⟨ρ, st, ds, q, hl, hs, hd, e, f⟩ := hsp
    simp only [run] at e
    have hj' : p.pg.fn[j]? = some ⟨r.ps.length, r.N.length, r.body⟩ := by
      show (p.fs.map fun r => (⟨r.ps.length, r.N.length, r.body⟩ : Fn))[j]? = _
      rw [List.getElem?_map, hj]; rfl
    rw [hj'] at e
    simp only at e
    split at e
    · obtain ⟨q1, e1, e2⟩ := Option.bind_eq_some_iff.mp e
      refine ⟨ρ, _, st, q1, start_RV r.N hd, hs, e1, ?_⟩
      obtain ⟨o, s1⟩ := q1
      cases o with
      | nx en => cases e2; exact fun σ' ρ' H' x s2 _ => f _ ρ' H' x s2 .non
      | rt d => cases e2; exact fun v ρ' H' x s2 d2 => f v ρ' H' x s2 d2
      | bk en => cases e2
      | ct en => cases e2
    · cases e
/-! ### the law's call -/
theorem law_end {P : Program} {w : World} {K : PySem.W.Frag} {mg mb : Str → Option Value} {k : Nat} {fa a : Addr} {fd : FuncData} {x : Str} {sp : Sp} {s : Shared} {vs : List Value} {ns : List Int}
    (hK : K.In s.heap) (hm : s.heap.Ns mainGlobals mg) (hb : s.heap.Ns builtinsNs mb) (hbb : ∀ y : Str, y ≠ "__name__" → mb y = bootBuiltins y) (hlim : s.heap.NoLimit) (hg : s.gens = #[])
    (ha : s.heap.get? a = some { cls := .type "list", data := .seq vs.toArray }) (hi : IntsAre vs ns) (hl : ns.length ≤ sizeLine) (hr : Room k callerA)
    (F : ∀ base : Heap, K.In base → base.Ns mainGlobals mg → FnG P w K mg base k fa fd [x] sp) (bind : ∀ (s' : Shared) (u : Value), BindsTo s' fd ⟨[u], []⟩ [(x, u)])
    (q : ∀ H : Hp, ((∃ o, H a = some (.frz o (.lst (ns.map V.int)))) ∨ ∀ H', SqL K H' a (ns.map V.int)) → sp [.ref a] H (fun v _ => v = .bl true) fun _ _ _ => False) :
    codeAny (model P w) callerA (.call (.ref fa) ⟨[.ref a], []⟩) (fun r s' => r = .ok (.ret (.bool true)) ∧ OldK s.heap s'.heap ∧ s'.os = s.os ∧ AllBare s'.gens) s := by
  have rv := vals_ints hi
  have lv := hi.length
  -- one heap: nothing is tracked, but perhaps the script
  have one : ∀ H : Hp, (∀ b u, H b = some u → b = a ∧ K.lookup a = none ∧ u = .frz { cls := .type "list", data := .seq vs.toArray } (.lst (ns.map V.int))) → HOk P w H s.heap → ((∃ o, H a = some (.frz o (.lst (ns.map V.int)))) ∨ ∀ H', SqL K H' a (ns.map V.int)) →
      codeAny (model P w) callerA (.call (.ref fa) ⟨[.ref a], []⟩) (fun r s' => r = .ok (.ret (.bool true)) ∧ OldK s.heap s'.heap ∧ s'.os = s.os ∧ AllBare s'.gens) s := by
    intro H hH ok sq
    have keep : ∀ {b : Addr} {o : Obj}, s.heap.get? b = some o → (H b = none) → (hidT s.heap H).get? b = some o := hidT_get
    have dicts : ∀ {b : Addr} {m : Str → Option Value}, s.heap.Ns b m → (hidT s.heap H).Ns b m := by
      rintro b m ⟨o, es, ep, e, d, z⟩
      refine ⟨o, es, ep, keep e ?_, d, z⟩
      cases hb : H b with
      | none => rfl
      | some u =>
        obtain ⟨rfl, _, _⟩ := hH b u hb
        rw [ha] at e
        cases e
        have : Data.seq vs.toArray _ = Data.dict es ep := d
        cases this
    have inK : K.In (hidT s.heap H) := by
      intro b o e
      refine keep (hK b o e) ?_
      cases hb : H b with
      | none => rfl
      | some u =>
        obtain ⟨rfl, z, _⟩ := hH b u hb
        rw [z] at e
        cases e
    have M : Mod K mg (hidT s.heap H) := ⟨inK, dicts hm, ⟨mb, dicts hb, hbb⟩, hlim.elim fun mc z => ⟨mc, dicts z.1, z.2⟩⟩
    have e0 : Env0 P w K mg (hidT s.heap H) callerA [] s H := ⟨rfl, M, fun b o e => of_hidT e, Nat.le_of_eq (hidT_size _ _), trivial, (fun b z => nomatch z), ok, .of_eq hg⟩
    refine codeAny_mono ((F _ inK (dicts hm)).run callerA [] s H ⟨[.ref a], []⟩ [.ref a] [.ref a] _ _ rfl hr e0 (bind s (.ref a)) (.cons rfl .nil) (q H sq)) fun r s' h => ?_
    cases r with
    | error e => exact (show False from h).elim
    | ok fl =>
      cases fl with
      | next => exact False.elim h
      | brk => exact False.elim h
      | cont => exact False.elim h
      | ret u =>
        obtain ⟨v, H', os, bare, un, ok', r', z⟩ := h
        have z' : v = .bl true := z
        subst z'
        have eu : u = Value.bool true := r'
        subst eu
        refine ⟨rfl, OldK.of_keep fun b o e => ?_, os, bare⟩
        cases hb : H b with
        | none => exact un.keep b o e hb (fun z => nomatch z) (fun z => nomatch z)
        | some u =>
          obtain ⟨rfl, _, eu⟩ := hH b u hb
          subst eu
          have e1 := (ok b _ hb).1
          have e2 := (ok' b _ (un.frzs b _ _ hb)).1
          rw [e] at e1
          cases e1
          exact e2
  cases hk : K.lookup a with
  | some o =>
    have e := hK a o hk
    rw [ha] at e
    cases e
    exact one (fun _ => none) (fun b u z => nomatch z) (fun b u z => nomatch z) (.inr fun H' => .inr ⟨_, vs.toArray, _, hk, rfl, rfl, rfl, by rw [List.size_toArray, lv]; exact hl, rv⟩)
  | none =>
    have at_a : (fun b => if b = a then some (HO.frz { cls := .type "list", data := .seq vs.toArray } (.lst (ns.map V.int))) else none) a = some (HO.frz { cls := .type "list", data := .seq vs.toArray } (.lst (ns.map V.int))) := if_pos rfl
    refine one (fun b => if b = a then some (.frz { cls := .type "list", data := .seq vs.toArray } (.lst (ns.map V.int))) else none) (fun b u z => ?_) (fun b u z => ?_) (.inl ⟨_, at_a⟩)
    · by_cases hb : b = a
      · subst hb
        exact ⟨rfl, hk, (Option.some.inj (at_a.symm.trans z)).symm⟩
      · exact absurd ((if_neg hb).symm.trans z) (by simp)
    · by_cases hb : b = a
      · subst hb
        have eu := Option.some.inj (at_a.symm.trans z)
        subst eu
        exact ⟨ha, by rw [List.length_map]; exact hl, vs, _, rv, ha⟩
      · exact absurd ((if_neg hb).symm.trans z) (by simp)
/-- THE END: the law's row, from what the interpreter says of the law's def -/
theorem walk_iv {l : PySem.W.OpenLaw} {q : Program} {loose : List Str} {XP : (Str → Option Value) → Heap → Prop} {YP : World → Heap → Prop} {d : DefRec} {K : Params → PySem.W.Frag} {p : Pr} {k j : Nat} {r : FR} {x : Str}
    (hn : l.most = some 63) (hdf : d.params.defaults = []) (hr : Room k callerA) (hj : p.fs[j]? = some r) (hx : r.ps = [x]) (hY : ∀ (w : World) (h : Heap), YP w h → (K w.params).In h)
    (F : ∀ (w : World) (mg : Str → Option Value) (fa : Addr) (h : Heap), (K w.params).In h → h.Ns mainGlobals mg → mg d.name = some (.ref fa) →
      ∃ (adr : Nat → Addr) (fd : Nat → FuncData), adr j = fa ∧ (∀ (s : Shared) (u : Value), BindsTo s (fd j) ⟨[u], []⟩ [(x, u)]) ∧ PF p (K w.params) mg adr fd)
    (law : ∀ ns : List Int, ns.length ≤ 63 → ∃ st, run p.pg k j [.rol (ns.map D.int)] [] = some (.bl true, st)) :
    PySem.W.WalkO q loose XP YP l.row.toRowW d [] (fun f vs => PySem.call f vs) := by
  refine Att.attach_call hn hdf fun w s₀ s₁ mg mb fa o pm cd doc a vs ns G Y ho hd hcd hmg hobj hints hlen hg => ?_
  obtain ⟨adr, fd, e, hb, T⟩ := F w mg fa _ (hY w _ Y) G.T.g hmg
  subst e
  refine law_end (hY w _ Y) G.T.g G.T.b G.T.builtins G.T.nolimit hg hobj hints (Nat.le_trans hlen (by decide)) hr (fun base _ _ => (by have := prog_ok (P := l.prog) (w := w) (base := base) T k j r hj; rw [hx] at this; exact this)) hb fun H sq => ?_
  obtain ⟨st, e⟩ := law ns hlen
  exact ⟨[], [], _, _, rfl, ⟨rfl, List.nodup_nil, fun n c z => by simp at z⟩, .cons (.rol sq (RDs.ints ns)) .nil, e, fun v ρ' H' _ _ hv => by cases hv; rfl⟩
end Iv
set_option Elab.async false
set_option linter.all false
set_option maxRecDepth 100000
set_option maxHeartbeats 4000000
namespace Iv
open PySem PySem.Spec PyProof.Rows L2
/-! ### plain laws: what the evaluator must answer -/
def Wp (o : Option (α × Sto)) (Q : α → Sto → Prop) : Prop := ∃ a s, o = some (a, s) ∧ Q a s
theorem wp_of {o : Option (α × Sto)} {Q : α → Sto → Prop} {a : α} {s : Sto} (e : o = some (a, s)) (q : Q a s) : Wp o Q := ⟨a, s, e, q⟩
theorem wp_mono {o : Option (α × Sto)} {Q R : α → Sto → Prop} (h : Wp o Q) (i : ∀ a s, Q a s → R a s) : Wp o R := by
  obtain ⟨a, s, e, q⟩ := h
  exact ⟨a, s, e, i a s q⟩
theorem wp_bind {o : Option (α × Sto)} {f : α × Sto → Option (β × Sto)} {Q : β → Sto → Prop} (h : Wp o fun a s => Wp (f (a, s)) Q) : Wp (o.bind f) Q := by
  obtain ⟨a, s, rfl, q⟩ := h
  exact q
theorem wp_map {o : Option (α × Sto)} {f : α × Sto → β × Sto} {Q : β → Sto → Prop} (h : Wp o fun a s => Q (f (a, s)).1 (f (a, s)).2) : Wp (o.map f) Q := by
  obtain ⟨a, s, rfl, q⟩ := h
  exact ⟨_, _, rfl, q⟩
theorem wp_opt {o : Option γ} {f : γ → β × Sto} {Q : β → Sto → Prop} (h : ∃ c, o = some c ∧ Q (f c).1 (f c).2) : Wp (o.map f) Q := by
  obtain ⟨c, rfl, q⟩ := h
  exact ⟨_, _, rfl, q⟩
theorem wp_obind {o : Option γ} {f : γ → Option (β × Sto)} {Q : β → Sto → Prop} (h : ∃ c, o = some c ∧ Wp (f c) Q) : Wp (o.bind f) Q := by
  obtain ⟨c, rfl, q⟩ := h
  exact q
/-- a truth -/
def Bo (x : D) (R : Bool → Prop) : Prop := ∃ k, x = .bl k ∧ R k
theorem bo_bl {k : Bool} {R : Bool → Prop} (h : R k) : Bo (.bl k) R := ⟨k, rfl, h⟩
theorem bo_as {x : D} {R : Bool → Prop} (h : Bo x R) : ∃ k, asB x = some k ∧ R k := by
  obtain ⟨k, rfl, r⟩ := h
  exact ⟨k, rfl, r⟩
section
variable {g : Cfg} {env : Env} {st : Sto} {Q : D → Sto → Prop} {a b c e : E} {es ks cs : Es} {op op' : CmpOp}
theorem w_var {i : Nat} {d : D} (h : env[i]?.join = some d) (q : Q d st) : Wp (evE g (.var i) env st) Q := ⟨d, st, by rw [evE, h]; rfl, q⟩
theorem w_glb {i : Nat} {d : D} (h : g.G i = some d) (q : Q d st) : Wp (evE g (.glb i) env st) Q := ⟨d, st, by rw [evE, h]; rfl, q⟩
theorem w_non (q : Q .non st) : Wp (evE g .non env st) Q := ⟨_, _, by rw [evE], q⟩
theorem w_bl {k : Bool} (q : Q (.bl k) st) : Wp (evE g (.bl k) env st) Q := ⟨_, _, by rw [evE], q⟩
theorem w_int {i : Int} (q : Q (.int i) st) : Wp (evE g (.int i) env st) Q := ⟨_, _, by rw [evE], q⟩
theorem w_str {x : Str} (q : Q (.str x) st) : Wp (evE g (.str x) env st) Q := ⟨_, _, by rw [evE], q⟩
theorem w_tup (h : Wp (evEs g es env st) fun ds s => Q (.tup ds) s) : Wp (evE g (.tup es) env st) Q := by rw [evE]; exact wp_bind (wp_mono h fun _ _ q => ⟨_, _, rfl, q⟩)
theorem w_lst (h : Wp (evEs g es env st) fun ds s => Q (.loc s.length) (s ++ [.lst ds])) : Wp (evE g (.lst es) env st) Q := by rw [evE]; exact wp_bind (wp_mono h fun _ _ q => ⟨_, _, rfl, q⟩)
theorem w_dct0 (q : Q (.loc st.length) (st ++ [.dK []])) : Wp (evE g .dct0 env st) Q := ⟨_, _, by rw [evE], q⟩
theorem w_bin {o : Operator} (h : Wp (evE g a env st) fun x s => Wp (evE g b env s) fun y s' => Wp (opB o x y s') Q) : Wp (evE g (.bin o a b) env st) Q := by
  rw [evE]; exact wp_bind (wp_mono h fun _ _ q => wp_bind q)
theorem w_neg (h : Wp (evE g a env st) fun x s => ∃ i, x = .int i ∧ Q (.int (-i)) s) : Wp (evE g (.neg a) env st) Q := by
  rw [evE]; refine wp_bind (wp_mono h fun _ _ q => ?_)
  obtain ⟨i, rfl, q⟩ := q
  exact ⟨_, _, rfl, q⟩
theorem w_cmp (h : Wp (evE g a env st) fun x s => Wp (evE g b env s) fun y s' => ∃ k, opC op x y s' = some k ∧ Q (.bl k) s') : Wp (evE g (.cmp op a b) env st) Q := by
  rw [evE]; exact wp_bind (wp_mono h fun _ _ q => wp_bind (wp_mono q fun _ _ q => wp_opt q))
theorem w_chn (h : Wp (evE g a env st) fun x s => Wp (evE g b env s) fun y s' => ∃ k, opC op x y s' = some k ∧ (k = true → Wp (evE g c env s') fun z s2 => ∃ k', opC op' y z s2 = some k' ∧ Q (.bl k') s2) ∧ (k = false → Q (.bl false) s')) : Wp (evE g (.chn op op' a b c) env st) Q := by
  rw [evE]; refine wp_bind (wp_mono h fun _ _ q => wp_bind (wp_mono q fun _ _ q => wp_obind ?_))
  obtain ⟨k, e, q1, q2⟩ := q
  refine ⟨k, e, ?_⟩
  cases k with
  | true => exact wp_bind (wp_mono (q1 rfl) fun _ _ q => wp_opt q)
  | false => exact ⟨_, _, rfl, q2 rfl⟩
theorem w_and (h : Wp (evE g a env st) fun x s => Bo x fun k => (k = true → Wp (evE g b env s) Q) ∧ (k = false → Q (.bl false) s)) : Wp (evE g (.and a b) env st) Q := by
  rw [evE]; refine wp_bind (wp_mono h fun _ _ q => wp_obind ?_)
  obtain ⟨k, e, q1, q2⟩ := bo_as q
  refine ⟨k, e, ?_⟩
  cases k with
  | true => exact q1 rfl
  | false => exact ⟨_, _, rfl, q2 rfl⟩
theorem w_or (h : Wp (evE g a env st) fun x s => Bo x fun k => (k = true → Q (.bl true) s) ∧ (k = false → Wp (evE g b env s) Q)) : Wp (evE g (.or a b) env st) Q := by
  rw [evE]; refine wp_bind (wp_mono h fun _ _ q => wp_obind ?_)
  obtain ⟨k, e, q1, q2⟩ := bo_as q
  refine ⟨k, e, ?_⟩
  cases k with
  | true => exact ⟨_, _, rfl, q1 rfl⟩
  | false => exact q2 rfl
theorem w_not (h : Wp (evE g a env st) fun x s => Bo x fun k => Q (.bl (!k)) s) : Wp (evE g (.not a) env st) Q := by
  rw [evE]; exact wp_bind (wp_mono h fun _ _ q => wp_opt (bo_as q))
theorem w_ife (h : Wp (evE g c env st) fun x s => Bo x fun k => (k = true → Wp (evE g a env s) Q) ∧ (k = false → Wp (evE g b env s) Q)) : Wp (evE g (.ife c a b) env st) Q := by
  rw [evE]; refine wp_bind (wp_mono h fun _ _ q => wp_obind ?_)
  obtain ⟨k, e, q1, q2⟩ := bo_as q
  refine ⟨k, e, ?_⟩
  cases k with
  | true => exact q1 rfl
  | false => exact q2 rfl
theorem w_idx (h : Wp (evE g a env st) fun x s => Wp (evE g b env s) fun y s' => ∃ d, opIx x y s' = some d ∧ Q d s') : Wp (evE g (.idx a b) env st) Q := by
  rw [evE]; exact wp_bind (wp_mono h fun _ _ q => wp_bind (wp_mono q fun _ _ q => wp_opt q))
theorem w_slc {lo hi : OE} (h : Wp (evE g a env st) fun x s => Wp (evO g lo env s) fun l s1 => Wp (evO g hi env s1) fun u s2 => Wp (opSl x l u s2) Q) : Wp (evE g (.slc a lo hi) env st) Q := by
  rw [evE]; exact wp_bind (wp_mono h fun _ _ q => wp_bind (wp_mono q fun _ _ q => wp_bind q))
theorem w_rev (h : Wp (evE g a env st) fun x s => Wp (opRev x s) Q) : Wp (evE g (.rev a) env st) Q := by rw [evE]; exact wp_bind h
theorem w_bi {k : Bi} (h : Wp (evEs g es env st) fun ds s => Wp (opBi k ds s) Q) : Wp (evE g (.bi k es) env st) Q := by rw [evE]; exact wp_bind h
theorem w_isi {t : Ty} (h : Wp (evE g a env st) fun x s => ∃ k, tyB t x s = some k ∧ Q (.bl k) s) : Wp (evE g (.isi a t) env st) Q := by rw [evE]; exact wp_bind (wp_mono h fun _ _ q => wp_opt q)
theorem w_mth {m : Me} (h : Wp (evE g a env st) fun x s => rcv m x s = true ∧ Wp (evEs g es env s) fun ds s' => Wp (opMe m x ds s') Q) : Wp (evE g (.mth m a es) env st) Q := by
  rw [evE]; refine wp_bind (wp_mono h fun x s q => ?_)
  show Wp (if rcv m x s = true then _ else _) Q
  rw [if_pos q.1]
  exact wp_bind q.2
theorem o_no {Q : Option Int → Sto → Prop} (q : Q none st) : Wp (evO g .no env st) Q := ⟨_, _, by rw [evO], q⟩
theorem o_so {Q : Option Int → Sto → Prop} (h : Wp (evE g a env st) fun x s => ∃ i, x = .int i ∧ Q (some i) s) : Wp (evO g (.so a) env st) Q := by
  rw [evO]; refine wp_bind (wp_mono h fun _ _ q => ?_)
  obtain ⟨i, rfl, q⟩ := q
  exact ⟨_, _, rfl, q⟩
theorem es_nil {Q : List D → Sto → Prop} (q : Q [] st) : Wp (evEs g .nil env st) Q := ⟨_, _, by rw [evEs], q⟩
theorem es_cons {Q : List D → Sto → Prop} (h : Wp (evE g e env st) fun d s => Wp (evEs g es env s) fun ds s' => Q (d :: ds) s') : Wp (evEs g (.cons e es) env st) Q := by
  rw [evEs]; exact wp_bind (wp_mono h fun _ _ q => wp_map q)
theorem ts_nil {Q : Bool → Sto → Prop} (q : Q true st) : Wp (evTs g .nil env st) Q := ⟨_, _, by rw [evTs], q⟩
theorem ts_cons {Q : Bool → Sto → Prop} (h : Wp (evE g e env st) fun x s => Bo x fun k => (k = true → Wp (evTs g es env s) Q) ∧ (k = false → Q false s)) : Wp (evTs g (.cons e es) env st) Q := by
  rw [evTs]; refine wp_bind (wp_mono h fun _ _ q => wp_obind ?_)
  obtain ⟨k, e, q1, q2⟩ := bo_as q
  refine ⟨k, e, ?_⟩
  cases k with
  | true => exact q1 rfl
  | false => exact ⟨_, _, rfl, q2 rfl⟩
end
/-! ### calls -/
noncomputable def Pg.cf (p : Pg) (n : Nat) : Cfg := ⟨run p n, p.G, p.KW, p.W⟩
theorem w_call {p : Pg} {n f : Nat} {es : Es} {env : Env} {st : Sto} {Q : D → Sto → Prop} (h : Wp (evEs (p.cf n) es env st) fun ds s => Wp (run p n f ds s) Q) : Wp (evE (p.cf n) (.call f es) env st) Q := by
  rw [evE]; exact wp_bind h
theorem w_calk {p : Pg} {n k f : Nat} {js : List Nat} {es ks : Es} {env : Env} {st : Sto} {Q : D → Sto → Prop} (hk : p.KW k = (f, js)) (h : Wp (evEs (p.cf n) es env st) fun ds s => Wp (evEs (p.cf n) ks env s) fun us s' => Wp (run p n f (js.map fun j => ((ds ++ us)[j]?).getD .non) s') Q) : Wp (evE (p.cf n) (.calk k es ks) env st) Q := by
  rw [evE]; refine wp_bind (wp_mono h fun _ _ q => wp_bind (wp_mono q fun _ _ q => ?_))
  show Wp (run p n (p.KW k).1 ((p.KW k).2.map _) _) Q
  rw [hk]
  exact q
/-- a def's end -/
def Rt (Q : D → Sto → Prop) : O → Sto → Prop
  | .rt d, s => Q d s
  | .nx _, s => Q .non s
  | _, _ => False
theorem rt_rt {Q : D → Sto → Prop} {d : D} {s : Sto} (q : Q d s) : Rt Q (.rt d) s := q
theorem rt_nx {Q : D → Sto → Prop} {e : Env} {s : Sto} (q : Q .non s) : Rt Q (.nx e) s := q
theorem run_fn {p : Pg} {n f np nl : Nat} {body : Ss} {ds : List D} {st : Sto} {Q : D → Sto → Prop} (h : p.fn[f]? = some ⟨np, nl, body⟩) (h1 : ds.length = np) (h2 : np ≤ nl)
    (w : Wp (evSs (p.cf n) body (ds.map some ++ List.replicate (nl - ds.length) none) st) (Rt Q)) : Wp (run p (n + 1) f ds st) Q := by
  have e : run p (n + 1) f ds st = (evSs (p.cf n) body (ds.map some ++ List.replicate (nl - ds.length) none) st).bind fun r => match r with
          | (.rt d, s) => some (d, s)
          | (.nx _, s) => some (.non, s)
          | _ => none := by
    rw [run]
    simp only [h]
    rw [if_pos ⟨h1, h2⟩]
    rfl
  rw [e]
  refine wp_bind (wp_mono w fun o s q => ?_)
  cases o with
  | nx e => exact ⟨_, _, rfl, q⟩
  | rt d => exact ⟨_, _, rfl, q⟩
  | bk e => exact q.elim
  | ct e => exact q.elim
/-! ### statements -/
def Th (g : Cfg) (ss : Ss) (Q : O → Sto → Prop) : O → Sto → Prop
  | .nx e, s => Wp (evSs g ss e s) Q
  | .rt d, s => Q (.rt d) s
  | .bk e, s => Q (.bk e) s
  | .ct e, s => Q (.ct e) s
section
variable {g : Cfg} {env : Env} {st s : Sto} {Q : O → Sto → Prop} {a b c e : E} {ss ss' : Ss} {x : S}
theorem th_nx {n : Env} (h : Wp (evSs g ss n s) Q) : Th g ss Q (.nx n) s := h
theorem th_rt {d : D} (h : Q (.rt d) s) : Th g ss Q (.rt d) s := h
theorem th_bk {n : Env} (h : Q (.bk n) s) : Th g ss Q (.bk n) s := h
theorem th_ct {n : Env} (h : Q (.ct n) s) : Th g ss Q (.ct n) s := h
theorem s_nil (q : Q (.nx env) st) : Wp (evSs g .nil env st) Q := ⟨_, _, by rw [evSs], q⟩
theorem s_cons (h : Wp (evS g x env st) (Th g ss Q)) : Wp (evSs g (.cons x ss) env st) Q := by
  rw [evSs]; refine wp_bind (wp_mono h fun o s q => ?_)
  cases o with
  | nx e => exact q
  | rt d => exact ⟨_, _, rfl, q⟩
  | bk e => exact ⟨_, _, rfl, q⟩
  | ct e => exact ⟨_, _, rfl, q⟩
theorem s_set {t : T} (h : Wp (evE g e env st) fun d s => ∃ n, asg t d env = some n ∧ Q (.nx n) s) : Wp (evS g (.set t e) env st) Q := by
  rw [evS]; exact wp_bind (wp_mono h fun _ _ q => wp_opt q)
theorem s_par2 {i j : Nat} (h : Wp (evE g a env st) fun x s => Wp (evE g b env s) fun y s' => (i < env.length ∧ j < env.length) ∧ Q (.nx ((env.set i (some x)).set j (some y))) s') : Wp (evS g (.par2 i j a b) env st) Q := by
  rw [evS]; refine wp_bind (wp_mono h fun x s q => wp_bind (wp_mono q fun y s' q => ?_))
  show Wp (if i < env.length ∧ j < env.length then _ else _) Q
  rw [if_pos q.1]
  exact ⟨_, _, rfl, q.2⟩
theorem s_seti (h : Wp (evE g e env st) fun d s => Wp (evE g a env s) fun o s1 => Wp (evE g b env s1) fun i s2 => ∃ s', opSet o i d s2 = some s' ∧ Q (.nx env) s') : Wp (evS g (.seti a b e) env st) Q := by
  rw [evS]; exact wp_bind (wp_mono h fun _ _ q => wp_bind (wp_mono q fun _ _ q => wp_bind (wp_mono q fun _ _ q => wp_opt q)))
theorem s_augA {i : Nat} {k : Int} (h : env[i]?.join = some (.int k)) (w : Wp (evE g e env st) fun d s => ∃ j, d = .int j ∧ Q (.nx (env.set i (some (.int (k + j))))) s) : Wp (evS g (.aug i .Add e) env st) Q := by
  rw [evS, h]; refine wp_obind ⟨_, rfl, wp_bind (wp_mono w fun d s q => ?_)⟩
  obtain ⟨j, rfl, q⟩ := q
  exact ⟨_, _, rfl, q⟩
theorem s_augS {i : Nat} {k : Int} (h : env[i]?.join = some (.int k)) (w : Wp (evE g e env st) fun d s => ∃ j, d = .int j ∧ Q (.nx (env.set i (some (.int (k - j))))) s) : Wp (evS g (.aug i .Sub e) env st) Q := by
  rw [evS, h]; refine wp_obind ⟨_, rfl, wp_bind (wp_mono w fun d s q => ?_)⟩
  obtain ⟨j, rfl, q⟩ := q
  exact ⟨_, _, rfl, q⟩
theorem s_ife (h : Wp (evE g c env st) fun x s => Bo x fun k => (k = true → Wp (evSs g ss env s) Q) ∧ (k = false → Wp (evSs g ss' env s) Q)) : Wp (evS g (.ife c ss ss') env st) Q := by
  rw [evS]; refine wp_bind (wp_mono h fun _ _ q => wp_obind ?_)
  obtain ⟨k, e, q1, q2⟩ := bo_as q
  refine ⟨k, e, ?_⟩
  cases k with
  | true => exact q1 rfl
  | false => exact q2 rfl
theorem s_ret (h : Wp (evE g e env st) fun d s => Q (.rt d) s) : Wp (evS g (.ret e) env st) Q := by rw [evS]; exact wp_map h
theorem s_retN (q : Q (.rt .non) st) : Wp (evS g .retN env st) Q := ⟨_, _, by rw [evS], q⟩
theorem s_exp (h : Wp (evE g e env st) fun _ s => Q (.nx env) s) : Wp (evS g (.exp e) env st) Q := by rw [evS]; exact wp_map h
theorem s_brk (q : Q (.bk env) st) : Wp (evS g .brk env st) Q := ⟨_, _, by rw [evS], q⟩
theorem s_cnt (q : Q (.ct env) st) : Wp (evS g .cnt env st) Q := ⟨_, _, by rw [evS], q⟩
theorem s_pss (q : Q (.nx env) st) : Wp (evS g .pss env st) Q := ⟨_, _, by rw [evS], q⟩
/-! ### loops -/
def Wh (N : Env → Sto → Prop) (Q : O → Sto → Prop) : O → Sto → Prop
  | .nx e, s => N e s
  | .ct e, s => N e s
  | .bk e, s => Q (.nx e) s
  | .rt d, s => Q (.rt d) s
theorem wh_nx {N : Env → Sto → Prop} {n : Env} (h : N n s) : Wh N Q (.nx n) s := h
theorem wh_ct {N : Env → Sto → Prop} {n : Env} (h : N n s) : Wh N Q (.ct n) s := h
theorem wh_bk {N : Env → Sto → Prop} {n : Env} (h : Q (.nx n) s) : Wh N Q (.bk n) s := h
theorem wh_rt {N : Env → Sto → Prop} {d : D} (h : Q (.rt d) s) : Wh N Q (.rt d) s := h
theorem whL_ok {c : Env → Sto → Option (Bool × Sto)} {b : Env → Sto → Option (O × Sto)} (I : Nat → Env → Sto → Prop)
    (hs : ∀ m e s, I m e s → Wp (c e s) fun k s1 => (k = true → Wp (b e s1) (Wh (fun e' s' => ∃ m', m' < m ∧ I m' e' s') Q)) ∧ (k = false → Q (.nx e) s1)) :
    ∀ (f m : Nat) (e : Env) (s : Sto), m < f → I m e s → Wp (whL c b f e s) Q
  | 0, m, e, s, h, _ => absurd h (Nat.not_lt_zero m)
  | f + 1, m, e, s, h, i => by
    rw [whL]
    refine wp_bind (wp_mono (hs m e s i) fun k s1 q => ?_)
    cases k with
    | false => exact ⟨_, _, rfl, q.2 rfl⟩
    | true =>
      refine wp_bind (wp_mono (q.1 rfl) fun o s2 q => ?_)
      cases o with
      | nx e' => obtain ⟨m', h', i'⟩ := q; exact whL_ok I hs f m' e' s2 (by omega) i'
      | ct e' => obtain ⟨m', h', i'⟩ := q; exact whL_ok I hs f m' e' s2 (by omega) i'
      | bk e' => exact ⟨_, _, rfl, q⟩
      | rt d => exact ⟨_, _, rfl, q⟩
theorem s_whl (I : Nat → Env → Sto → Prop) (m : Nat) (h0 : I m env st) (hm : m < g.W)
    (hs : ∀ m e s, I m e s → Wp (evE g c e s) fun x s1 => Bo x fun k => (k = true → Wp (evSs g ss e s1) (Wh (fun e' s' => ∃ m', m' < m ∧ I m' e' s') Q)) ∧ (k = false → Q (.nx e) s1)) : Wp (evS g (.whl c ss) env st) Q := by
  rw [evS]
  exact whL_ok I (fun m e s i => wp_bind (wp_mono (hs m e s i) fun x s1 q => wp_opt (bo_as q))) g.W m env st hm h0
def Fo (g : Cfg) (t : T) (b : Ss) (src : Src) (xs : List D) (env : Env) (s : Sto) (Q : O → Sto → Prop) : Prop := Wp (forL (fun x e s => (asg t x e).bind fun n => evSs g b n s) src xs env s) Q
theorem s_loop {t : T} {it : It} (h : Wp (evI g it env st) fun src s => Fo g t ss src src.items env s Q) : Wp (evS g (.loop t it ss) env st) Q := by rw [evS]; exact wp_bind h
theorem fo_inv {t : T} {src : Src} (I : List D → Env → Sto → Prop)
    (hs : ∀ x xs e s, I (x :: xs) e s → src.ok s ∧ ∃ e1, asg t x e = some e1 ∧ Wp (evSs g ss e1 s) (Wh (fun e2 s2 => I xs e2 s2) Q)) (he : ∀ e s, I [] e s → src.ok s ∧ Q (.nx e) s) :
    ∀ {xs : List D} {e : Env} {s : Sto}, I xs e s → Fo g t ss src xs e s Q
  | [], e, s, i => by
    obtain ⟨h1, h2⟩ := he e s i
    unfold Fo
    rw [forL, if_pos h1]
    exact ⟨_, _, rfl, h2⟩
  | x :: xs, e, s, i => by
    obtain ⟨h1, e1, h2, h3⟩ := hs x xs e s i
    unfold Fo
    rw [forL, if_pos h1]
    refine wp_bind (f := fun r : O × Sto => match r with
        | (.nx e, st') => forL (fun x e s => (asg t x e).bind fun n => evSs g ss n s) src xs e st'
        | (.ct e, st') => forL (fun x e s => (asg t x e).bind fun n => evSs g ss n s) src xs e st'
        | (.bk e, st') => some (.nx e, st')
        | (.rt d, st') => some (.rt d, st')) (wp_mono (wp_obind ⟨e1, h2, h3⟩) fun o s2 q => ?_)
    cases o with
    | nx e' => exact fo_inv I hs he (xs := xs) q
    | ct e' => exact fo_inv I hs he (xs := xs) q
    | bk e' => exact ⟨_, _, rfl, q⟩
    | rt d => exact ⟨_, _, rfl, q⟩
theorem fo_none {xs : List D} {s : Sto} : Src.ok ⟨xs, none⟩ s := fun _ _ h => nomatch h
theorem fo_some {xs ys : List D} {n : Nat} {s : Sto} (h : s[n]? = some (.lst ys)) : Src.ok ⟨xs, some (n, ys)⟩ s := fun _ _ e => by cases e; exact h
end
/-! ### what is walked -/
section
variable {g : Cfg} {env : Env} {st : Sto} {Q : Src → Sto → Prop} {a b : E}
theorem i_val (h : Wp (evE g a env st) fun x s => ∃ r, srcOf s x = some r ∧ Q r s) : Wp (evI g (.val a) env st) Q := by rw [evI]; exact wp_bind (wp_mono h fun _ _ q => wp_opt q)
theorem i_rng1 (h : Wp (evE g a env st) fun x s => ∃ j, x = .int j ∧ (-(2 ^ 62) ≤ j ∧ j < 2 ^ 62) ∧ Q ⟨rangeD 0 j.toNat, none⟩ s) : Wp (evI g (.rng1 a) env st) Q := by
  rw [evI]; refine wp_bind (wp_mono h fun x s q => ?_)
  obtain ⟨j, rfl, q1, q2⟩ := q
  show Wp (if -(2 ^ 62) ≤ j ∧ j < 2 ^ 62 then _ else _) Q
  rw [if_pos q1]
  exact ⟨_, _, rfl, q2⟩
theorem i_rng2 (h : Wp (evE g a env st) fun x s => Wp (evE g b env s) fun y s' => ∃ i j, x = .int i ∧ y = .int j ∧ (-(2 ^ 62) ≤ i ∧ i < 2 ^ 62 ∧ -(2 ^ 62) ≤ j ∧ j < 2 ^ 62) ∧ Q ⟨rangeD i (j - i).toNat, none⟩ s') : Wp (evI g (.rng2 a b) env st) Q := by
  rw [evI]; refine wp_bind (wp_mono h fun x s q => wp_bind (wp_mono q fun y s' q => ?_))
  obtain ⟨i, j, rfl, rfl, q1, q2⟩ := q
  show Wp (if -(2 ^ 62) ≤ i ∧ i < 2 ^ 62 ∧ -(2 ^ 62) ≤ j ∧ j < 2 ^ 62 then _ else _) Q
  rw [if_pos q1]
  exact ⟨_, _, rfl, q2⟩
theorem i_enu {g : Cfg} {env : Env} {st : Sto} {Q : Src → Sto → Prop} {a : E} (h : Wp (evE g a env st) fun x s => (∃ xs, x = .tup xs ∧ Q ⟨enumD 0 xs, none⟩ s) ∨ ∃ n xs, x = .loc n ∧ s[n]? = some (.lst xs) ∧ Q ⟨enumD 0 xs, some (n, xs)⟩ s) : Wp (evI g (.enu a) env st) Q := by
  rw [evI]; refine wp_bind (wp_mono h fun x s q => ?_)
  rcases q with ⟨xs, rfl, q⟩ | ⟨n, xs, rfl, h, q⟩
  · exact ⟨_, _, rfl, q⟩
  · refine ⟨⟨enumD 0 xs, some (n, xs)⟩, s, ?_, q⟩
    simp only [h]
theorem i_zip (h : Wp (evE g a env st) fun x s => Wp (evE g b env s) fun y s' => ∃ xs ys, x = .tup xs ∧ y = .tup ys ∧ Q ⟨zipD xs ys, none⟩ s') : Wp (evI g (.zip a b) env st) Q := by
  rw [evI]; refine wp_bind (wp_mono h fun x s q => wp_bind (wp_mono q fun y s' q => ?_))
  obtain ⟨xs, ys, rfl, rfl, q2⟩ := q
  exact ⟨_, _, rfl, q2⟩
end
/-! ### comprehensions -/
theorem lcL_ok {one : D → Sto → Option (Option D × Sto)} {src : Src} {n : Nat} {Q : Sto → Prop} (I : List D → List D → Sto → Prop)
    (hs : ∀ x xs acc s, I (x :: xs) acc s → src.ok s ∧ Wp (one x s) fun r s' => (r = none → I xs acc s') ∧ ∀ y, r = some y → s'[n]? = some (.lst acc) ∧ acc.length < sizeLine ∧ I xs (acc ++ [y]) (s'.set n (.lst (acc ++ [y]))))
    (he : ∀ acc s, I [] acc s → src.ok s ∧ Q s) : ∀ (xs acc : List D) (s : Sto), I xs acc s → ∃ s', lcL one src n xs s = some s' ∧ Q s'
  | [], acc, s, i => by
    obtain ⟨h1, h2⟩ := he acc s i
    rw [lcL, if_pos h1]
    exact ⟨_, rfl, h2⟩
  | x :: xs, acc, s, i => by
    obtain ⟨h1, r, s', h2, h3, h4⟩ := hs x xs acc s i
    rw [lcL, if_pos h1, h2]
    cases r with
    | none => exact lcL_ok I hs he xs acc s' (h3 rfl)
    | some y =>
      obtain ⟨e1, e2, e3⟩ := h4 y rfl
      obtain ⟨s2, e4, q⟩ := lcL_ok I hs he xs (acc ++ [y]) _ e3
      refine ⟨s2, ?_, q⟩
      show (match s'[n]? with
          | some (.lst acc) => if acc.length < sizeLine then lcL one src n xs (s'.set n (.lst (acc ++ [y]))) else none
          | _ => none) = _
      simp only [e1]
      rw [if_pos e2, e4]
def Lc (g : Cfg) (elt : E) (t : T) (cs : Es) (own : List Nat) (env : Env) (src : Src) (s : Sto) (Q : D → Sto → Prop) : Prop :=
  Wp ((lcL (fun x s => (asg t x (wipeE env own)).bind fun e => (evTs g cs e s).bind fun q =>
        if q.1 = true then (evE g elt e q.2).map fun p => (some p.1, p.2) else some (none, q.2)) src s.length src.items (s ++ [.lst []])).map fun s' => (D.loc s.length, s')) Q
theorem w_lc {g : Cfg} {elt : E} {t : T} {it : It} {cs : Es} {own : List Nat} {env : Env} {st : Sto} {Q : D → Sto → Prop} (h : Wp (evI g it env st) fun src s => Lc g elt t cs own env src s Q) : Wp (evE g (.lc elt t it cs own) env st) Q := by
  rw [evE]; exact wp_bind h
/-! ### the frame of the store -/
def Kx (X : List Nat) (s s' : Sto) : Prop := s.length ≤ s'.length ∧ ∀ n, n < s.length → n ∉ X → s'[n]? = s[n]?
theorem Kx.refl {X : List Nat} {s : Sto} : Kx X s s := ⟨Nat.le_refl _, fun _ _ _ => rfl⟩
theorem Kx.trans {X : List Nat} {a b c : Sto} (h : Kx X a b) (k : Kx X b c) : Kx X a c := ⟨Nat.le_trans h.1 k.1, fun n h1 h2 => (k.2 n (Nat.lt_of_lt_of_le h1 h.1) h2).trans (h.2 n h1 h2)⟩
theorem Kx.trans' {X Y : List Nat} {a b c : Sto} (h : Kx X a b) (k : Kx Y b c) (hy : ∀ y ∈ Y, y ∈ X ∨ a.length ≤ y) : Kx X a c := ⟨Nat.le_trans h.1 k.1, fun n h1 h2 => (k.2 n (Nat.lt_of_lt_of_le h1 h.1) (fun hn => by rcases hy n hn with z | z; exact h2 z; omega)).trans (h.2 n h1 h2)⟩
theorem Kx.weak {X Y : List Nat} {a b : Sto} (h : Kx X a b) (hy : ∀ y ∈ X, y ∈ Y ∨ a.length ≤ y) : Kx Y a b := Kx.refl.trans' h hy
theorem Kx.push {X : List Nat} {a b : Sto} (h : Kx X a b) (c : C) : Kx X a (b ++ [c]) := ⟨Nat.le_trans h.1 (by simp), fun n h1 h2 => by
  rw [List.getElem?_append_left (Nat.lt_of_lt_of_le h1 h.1)]; exact h.2 n h1 h2⟩
theorem Kx.set {X : List Nat} {a b : Sto} {m : Nat} (h : Kx X a b) (hm : m ∈ X ∨ a.length ≤ m) (c : C) : Kx X a (b.set m c) := ⟨by rw [List.length_set]; exact h.1, fun n h1 h2 => by
  rw [List.getElem?_set_ne (fun e => by subst e; rcases hm with z | z; exact h2 z; omega)]; exact h.2 n h1 h2⟩
theorem Kx.get {X : List Nat} {a b : Sto} {n : Nat} {c : C} (h : Kx X a b) (e : a[n]? = some c) (hn : n ∉ X) : b[n]? = some c := by
  rw [h.2 n (by rcases List.getElem?_eq_some_iff.mp e with ⟨z, _⟩; exact z) hn]; exact e
theorem push_at {a : Sto} {c : C} : (a ++ [c])[a.length]? = some c := by simp
theorem push_old {a : Sto} {n : Nat} {c d : C} (e : a[n]? = some d) : (a ++ [c])[n]? = some d := by
  rw [List.getElem?_append_left (by rcases List.getElem?_eq_some_iff.mp e with ⟨z, _⟩; exact z)]; exact e
theorem set_at {a : Sto} {n : Nat} {c d : C} (e : a[n]? = some d) : (a.set n c)[n]? = some c := by
  rcases List.getElem?_eq_some_iff.mp e with ⟨z, _⟩
  rw [List.getElem?_set_self z]
theorem set_old {a : Sto} {m n : Nat} {c d : C} (e : a[n]? = some d) (h : m ≠ n) : (a.set m c)[n]? = some d := by
  rw [List.getElem?_set_ne h]; exact e
/-- a comprehension whose new list stands aside -/
inductive Fm (R : D → Option D → Prop) : List D → List D → Prop
  | nil : Fm R [] []
  | keep {x y xs ys} : R x (some y) → Fm R xs ys → Fm R (x :: xs) (y :: ys)
  | skip {x xs ys} : R x none → Fm R xs ys → Fm R (x :: xs) ys
theorem Fm.snoc {R : D → Option D → Prop} {xs ys : List D} (h : Fm R xs ys) : ∀ {x y}, R x (some y) → Fm R (xs ++ [x]) (ys ++ [y]) := by
  induction h with
  | nil => intro x y r; exact .keep r .nil
  | keep r _ ih => intro x y r'; exact .keep r (ih r')
  | skip r _ ih => intro x y r'; exact .skip r (ih r')
theorem Fm.snoc0 {R : D → Option D → Prop} {xs ys : List D} (h : Fm R xs ys) : ∀ {x}, R x none → Fm R (xs ++ [x]) ys := by
  induction h with
  | nil => intro x r; exact .skip r .nil
  | keep r _ ih => intro x r'; exact .keep r (ih r')
  | skip r _ ih => intro x r'; exact .skip r (ih r')
theorem Fm.len {R : D → Option D → Prop} {xs ys : List D} (h : Fm R xs ys) : ys.length ≤ xs.length := by
  induction h with
  | nil => exact Nat.le_refl _
  | keep _ _ ih => simp only [List.length_cons]; omega
  | skip _ _ ih => simp only [List.length_cons]; omega
theorem lc_kx {g : Cfg} {elt : E} {t : T} {cs : Es} {own : List Nat} {env : Env} {src : Src} {s : Sto} {Q : D → Sto → Prop} {X : List Nat} (R : D → Option D → Prop) (J : Sto → Prop)
    (hJ : ∀ s1 s2 : Sto, (∀ m, m < s.length → s1[m]? = s2[m]?) → J s1 → J s2) (hX : ∀ x ∈ X, x < s.length) (j0 : J s) (hl : src.items.length ≤ sizeLine)
    (hk : ∀ n ys, src.lk = some (n, ys) → n ∉ X ∧ s[n]? = some (.lst ys))
    (hs : ∀ x ∈ src.items, ∀ s', Kx X s s' → s.length < s'.length → J s' → ∃ e1, asg t x (wipeE env own) = some e1 ∧ Wp (evTs g cs e1 s') fun k s1 =>
      (k = true → Wp (evE g elt e1 s1) fun y s2 => R x (some y) ∧ J s2 ∧ Kx X s' s2) ∧ (k = false → R x none ∧ J s1 ∧ Kx X s' s1))
    (he : ∀ ys s', s'[s.length]? = some (.lst ys) → Fm R src.items ys → J s' → Kx X s s' → s.length < s'.length → Q (.loc s.length) s') : Lc g elt t cs own env src s Q := by
  unfold Lc
  refine wp_opt ?_
  have ok : ∀ s', Kx X s s' → src.ok s' := fun s' k n ys e => k.get (hk n ys e).2 (hk n ys e).1
  have hn : s.length ∉ X := fun z => Nat.lt_irrefl _ (hX _ z)
  refine lcL_ok (fun xs acc s' => ∃ pre, src.items = pre ++ xs ∧ Fm R pre acc ∧ s'[s.length]? = some (.lst acc) ∧ J s' ∧ Kx X s s' ∧ s.length < s'.length) ?_ ?_ src.items [] _ ?_
  · rintro x xs acc s' ⟨pre, e, fm, ea, j, k, lt⟩
    refine ⟨ok _ k, ?_⟩
    obtain ⟨e1, h1, h2⟩ := hs x (by rw [e]; simp) s' k lt j
    refine wp_obind ⟨e1, h1, wp_bind (wp_mono h2 fun b s1 q => ?_)⟩
    have len : acc.length < sizeLine := by
      have z := fm.len
      rw [e] at hl
      simp only [List.length_append, List.length_cons] at hl
      omega
    cases b with
    | true =>
      refine wp_map (wp_mono (q.1 rfl) fun y s2 q => ?_)
      refine ⟨fun z => (nomatch z), fun y' z => ?_⟩
      cases z
      obtain ⟨r, j2, k2⟩ := q
      have ea2 := k2.get ea hn
      refine ⟨ea2, len, pre ++ [x], by rw [e]; simp, fm.snoc r, set_at ea2, hJ _ _ (fun m hm => (List.getElem?_set_ne (by omega)).symm) j2, (k.trans k2).set (.inr (Nat.le_refl _)) _, ?_⟩
      rw [List.length_set]
      exact Nat.lt_of_lt_of_le lt k2.1
    | false =>
      obtain ⟨r, j2, k2⟩ := q.2 rfl
      exact ⟨_, _, rfl, fun _ => ⟨pre ++ [x], by rw [e]; simp, fm.snoc0 r, k2.get ea hn, j2, k.trans k2, Nat.lt_of_lt_of_le lt k2.1⟩, fun _ z => nomatch z⟩
  · rintro acc s' ⟨pre, e, fm, ea, j, k, lt⟩
    rw [List.append_nil] at e
    subst e
    exact ⟨ok _ k, he acc s' ea fm j k lt⟩
  · exact ⟨[], rfl, .nil, push_at, hJ _ _ (fun m hm => (List.getElem?_append_left hm).symm) j0, Kx.refl.push _, by simp⟩
end Iv
set_option Elab.async false
set_option linter.all false
set_option maxRecDepth 100000
set_option maxHeartbeats 4000000
namespace Iv
open PySem PySem.Spec PyProof.Rows L2
/-! ### operations, as rules -/
section
variable {s : Sto} {Q : D → Sto → Prop} {i j : Int} {x y : D} {n : Nat} {xs ys : List D}
theorem o_addI (q : Q (.int (i + j)) s) : Wp (opB .Add (.int i) (.int j) s) Q := ⟨_, _, rfl, q⟩
theorem o_subI (q : Q (.int (i - j)) s) : Wp (opB .Sub (.int i) (.int j) s) Q := ⟨_, _, rfl, q⟩
theorem o_mod (h : 0 < j) (q : Q (.int (i % j)) s) : Wp (opB .Mod (.int i) (.int j) s) Q := ⟨_, _, if_pos h, q⟩
theorem o_fdiv (h : 0 < j) (h2 : j.natAbs.log2 < 9000) (q : Q (.int (i / j)) s) : Wp (opB .FloorDiv (.int i) (.int j) s) Q := ⟨_, _, if_pos ⟨h, h2⟩, q⟩
theorem o_mulI (h : i.natAbs.log2 + j.natAbs.log2 < 1000000) (q : Q (.int (i * j)) s) : Wp (opB .Mult (.int i) (.int j) s) Q := ⟨_, _, if_pos h, q⟩
theorem o_pow (h : 0 ≤ j ∧ j ≤ 1000000 ∧ i.natAbs < 2 ^ 64) (q : Q (.int (i ^ j.toNat)) s) : Wp (opB .Pow (.int i) (.int j) s) Q := ⟨_, _, if_pos h, q⟩
theorem o_addT (h : xs.length + ys.length ≤ sizeLine) (q : Q (.tup (xs ++ ys)) s) : Wp (opB .Add (.tup xs) (.tup ys) s) Q := ⟨_, _, if_pos h, q⟩
theorem o_mulT (h : 0 ≤ j ∧ j ≤ 1000 ∧ xs.length ≤ 1000) (q : Q (.tup (List.replicate j.toNat xs).flatten) s) : Wp (opB .Mult (.tup xs) (.int j) s) Q := ⟨_, _, if_pos h, q⟩
theorem o_addL {m : Nat} (h1 : s[m]? = some (.lst xs)) (h2 : s[n]? = some (.lst ys)) (h : xs.length + ys.length ≤ sizeLine) (q : Q (.loc s.length) (s ++ [.lst (xs ++ ys)])) : Wp (opB .Add (.loc m) (.loc n) s) Q := by
  refine ⟨.loc s.length, s ++ [.lst (xs ++ ys)], ?_, q⟩
  simp only [opB, h1, h2]
  exact if_pos h
theorem o_mulL (h1 : s[n]? = some (.lst xs)) (h : 0 ≤ j ∧ j ≤ 1000 ∧ xs.length ≤ 1000) (q : Q (.loc s.length) (s ++ [.lst (List.replicate j.toNat xs).flatten])) : Wp (opB .Mult (.loc n) (.int j) s) Q := by
  refine ⟨.loc s.length, s ++ [.lst (List.replicate j.toNat xs).flatten], ?_, q⟩
  simp only [opB, h1]
  exact if_pos h
theorem b_lenT (q : Q (.int xs.length) s) : Wp (opBi .len [.tup xs] s) Q := ⟨_, _, rfl, q⟩
theorem b_lenR (q : Q (.int xs.length) s) : Wp (opBi .len [.rol xs] s) Q := ⟨_, _, rfl, q⟩
theorem b_lenL (h : s[n]? = some (.lst xs)) (q : Q (.int xs.length) s) : Wp (opBi .len [.loc n] s) Q := ⟨_, _, by simp only [opBi, h], q⟩
theorem b_abs (q : Q (.int (if i < 0 then -i else i)) s) : Wp (opBi .abs [.int i] s) Q := ⟨_, _, rfl, q⟩
theorem b_intI (q : Q (.int i) s) : Wp (opBi .int [.int i] s) Q := ⟨_, _, rfl, q⟩
theorem b_sum {ns : List Int} (h : itemsOf s x = some xs) (h2 : intsOf xs = some ns) (q : Q (.int ns.sum) s) : Wp (opBi .sum [x] s) Q := ⟨_, _, by simp only [opBi, h, h2, Option.bind_some, Option.map_some], q⟩
theorem b_tupT (q : Q (.tup xs) s) : Wp (opBi .tuple [.tup xs] s) Q := ⟨_, _, rfl, q⟩
theorem b_tupL (h : s[n]? = some (.lst xs)) (q : Q (.tup xs) s) : Wp (opBi .tuple [.loc n] s) Q := ⟨_, _, by simp only [opBi, itemsOf, h, Option.map_some], q⟩
theorem b_listT (q : Q (.loc s.length) (s ++ [.lst xs])) : Wp (opBi .list [.tup xs] s) Q := ⟨_, _, rfl, q⟩
theorem b_listL (h : s[n]? = some (.lst xs)) (q : Q (.loc s.length) (s ++ [.lst xs])) : Wp (opBi .list [.loc n] s) Q := ⟨_, _, by simp only [opBi, itemsOf, h, Option.map_some], q⟩
theorem b_repr {z : Str} (h : reprD s x = some z) (q : Q (.str z) s) : Wp (opBi .repr [x] s) Q := ⟨_, _, by simp only [opBi, h, Option.map_some], q⟩
theorem ix_loc {d : D} (h : s[n]? = some (.lst xs)) (e : atI xs i = some d) : opIx (.loc n) (.int i) s = some d := by simp only [opIx, h]; exact e
theorem i_loc {R : D → Prop} {d : D} (h : s[n]? = some (.lst xs)) (e : atI xs i = some d) (q : R d) : ∃ d, opIx (.loc n) (.int i) s = some d ∧ R d := ⟨d, ix_loc h e, q⟩
theorem i_tup {R : D → Prop} {d : D} (e : atI xs i = some d) (q : R d) : ∃ d, opIx (.tup xs) (.int i) s = some d ∧ R d := ⟨d, e, q⟩
theorem src_loc {R : Src → Prop} (h : s[n]? = some (.lst xs)) (q : R ⟨xs, some (n, xs)⟩) : ∃ r, srcOf s (.loc n) = some r ∧ R r := ⟨_, by simp only [srcOf, h], q⟩
theorem r_loc (h : s[n]? = some (.lst xs)) (q : Q (.loc s.length) (s ++ [.lst xs.reverse])) : Wp (opRev (.loc n) s) Q := ⟨_, _, by simp only [opRev, h], q⟩
theorem l_tup {lo hi : Option Int} (q : Q (.tup (cutD xs lo hi)) s) : Wp (opSl (.tup xs) lo hi s) Q := ⟨_, _, rfl, q⟩
theorem l_rol {lo hi : Option Int} (q : Q (.loc s.length) (s ++ [.lst (cutD xs lo hi)])) : Wp (opSl (.rol xs) lo hi s) Q := ⟨_, _, rfl, q⟩
theorem l_loc {lo hi : Option Int} (h : s[n]? = some (.lst xs)) (q : Q (.loc s.length) (s ++ [.lst (cutD xs lo hi)])) : Wp (opSl (.loc n) lo hi s) Q := ⟨_, _, by simp only [opSl, h], q⟩
theorem m_append {d : D} (h : s[n]? = some (.lst xs)) (hl : xs.length < sizeLine) (q : Q .non (s.set n (.lst (xs ++ [d])))) : Wp (opMe .append (.loc n) [d] s) Q := ⟨_, _, by simp only [opMe, h]; exact if_pos hl, q⟩
theorem m_extend {m : Nat} (h : s[n]? = some (.lst xs)) (h2 : s[m]? = some (.lst ys)) (hl : xs.length + ys.length ≤ sizeLine) (q : Q .non (s.set n (.lst (xs ++ ys)))) : Wp (opMe .extend (.loc n) [.loc m] s) Q := ⟨_, _, by simp only [opMe, h, h2]; exact if_pos hl, q⟩
theorem m_pop {d : D} (h : s[n]? = some (.lst (xs ++ [d]))) (q : Q d (s.set n (.lst xs))) : Wp (opMe .pop (.loc n) [] s) Q := ⟨_, _, by simp [opMe, h], q⟩
theorem rcv_loc {m : Me} (hm : m ≠ .join) (h : s[n]? = some (.lst xs)) : rcv m (.loc n) s = true := by
  cases m <;> first | exact absurd rfl hm | simp [rcv, h]
theorem k_if {k : Bool} {A B : Prop} (a : k = true → A) (b : k = false → B) : Bo (.bl k) fun k => (k = true → A) ∧ (k = false → B) := bo_bl ⟨a, b⟩
end
theorem opSet_at {s : Sto} {n : Nat} {xs : List D} {i : Int} {j : Nat} {d : D} (h : s[n]? = some (.lst xs)) (e : ixN xs.length i = some j) : opSet (.loc n) (.int i) d s = some (s.set n (.lst (xs.set j d))) := by
  simp only [opSet, h, e, Option.map_some]
/-! ### data in plain sight -/
mutual
inductive Da (P : Nat → Prop) (st : Sto) : Nat → D → PyData → Prop
  | non {k} : Da P st k .non .none
  | bl {k b} : Da P st k (.bl b) (.bool b)
  | int {k i} : Da P st k (.int i) (.int i)
  | str {k x} : Da P st k (.str x) (.str x)
  | tup {k xs ys} : Das P st k xs ys → Da P st (k + 1) (.tup xs) (.tuple ys)
  | loc {k n xs ys} : P n → st[n]? = some (.lst xs) → Das P st k xs ys → Da P st (k + 1) (.loc n) (.list ys)
inductive Das (P : Nat → Prop) (st : Sto) : Nat → List D → List PyData → Prop
  | nil {k} : Das P st k [] []
  | cons {k x xs y ys} : Da P st k x y → Das P st k xs ys → Das P st k (x :: xs) (y :: ys)
end
def gf (st : Sto) : Nat → Nat → Option PyData
  | 0 => fun _ => none
  | f + 1 => fun n => match st[n]? with
      | some (C.lst xs) => (pyCs (fun m => pyL f st (.loc m)) xs).map PyData.list
      | _ => none
theorem pyL_gf {st : Sto} {d : D} : ∀ {f : Nat}, pyL f st d = pyC (gf st f) d
  | 0 => rfl
  | _ + 1 => rfl
mutual
theorem Da.py {P : Nat → Prop} {st : Sto} : ∀ {k : Nat} {d : D} {y : PyData}, Da P st k d y → ∀ f, k ≤ f → pyL f st d = some y
  | _, _, _, .non, f, _ => by rw [pyL_gf]; rfl
  | _, _, _, .bl, f, _ => by rw [pyL_gf]; rfl
  | _, _, _, .int, f, _ => by rw [pyL_gf]; rfl
  | _, _, _, .str, f, _ => by rw [pyL_gf]; rfl
  | k + 1, _, _, .tup h, f, hf => by
    rw [pyL_gf]
    show (pyCs (gf st f) _).map PyData.tuple = _
    rw [Das.py h f (by omega)]; rfl
  | k + 1, _, _, .loc _ e h, f, hf => by
    obtain ⟨f, rfl⟩ : ∃ f', f = f' + 1 := ⟨f - 1, by omega⟩
    rw [pyL_gf]
    show (match st[_]? with
      | some (C.lst xs) => (pyCs (fun m => pyL f st (.loc m)) xs).map PyData.list
      | _ => none) = _
    simp only [e]
    have z : (fun m => pyL f st (.loc m)) = gf st f := funext fun m => pyL_gf
    rw [z, Das.py h f (by omega)]; rfl
theorem Das.py {P : Nat → Prop} {st : Sto} : ∀ {k : Nat} {ds : List D} {ys : List PyData}, Das P st k ds ys → ∀ f, k ≤ f → pyCs (gf st f) ds = some ys
  | _, _, _, .nil, f, _ => rfl
  | _, _, _, .cons (x := x) (xs := xs) a b, f, hf => by
    show ((pyC (gf st f) x).bind fun d => (pyCs (gf st f) xs).map (d :: ·)) = _
    rw [← pyL_gf, Da.py a f hf, Das.py b f hf]; rfl
end
mutual
theorem Da.keep {P P' : Nat → Prop} {st st' : Sto} (h : ∀ n c, P n → st[n]? = some c → P' n ∧ st'[n]? = some c) : ∀ {k k' : Nat} {d : D} {y : PyData}, Da P st k d y → k ≤ k' → Da P' st' k' d y
  | _, _, _, _, .non, _ => .non
  | _, _, _, _, .bl, _ => .bl
  | _, _, _, _, .int, _ => .int
  | _, _, _, _, .str, _ => .str
  | k + 1, k' + 1, _, _, .tup a, hk => .tup (Das.keep h a (by omega))
  | k + 1, k' + 1, _, _, .loc p e a, hk => .loc (h _ _ p e).1 (h _ _ p e).2 (Das.keep h a (by omega))
  | k + 1, 0, _, _, .tup a, hk => absurd hk (by omega)
  | k + 1, 0, _, _, .loc p e a, hk => absurd hk (by omega)
theorem Das.keep {P P' : Nat → Prop} {st st' : Sto} (h : ∀ n c, P n → st[n]? = some c → P' n ∧ st'[n]? = some c) : ∀ {k k' : Nat} {ds : List D} {ys : List PyData}, Das P st k ds ys → k ≤ k' → Das P' st' k' ds ys
  | _, _, _, _, .nil, _ => .nil
  | _, _, _, _, .cons a b, hk => .cons (Da.keep h a hk) (Das.keep h b hk)
end
mutual
theorem Da.depth {P : Nat → Prop} {st : Sto} : ∀ {k : Nat} {d : D} {y : PyData}, Da P st k d y → y.depth ≤ k
  | _, _, _, .non => Nat.zero_le _
  | _, _, _, .bl => Nat.zero_le _
  | _, _, _, .int => Nat.zero_le _
  | _, _, _, .str => Nat.zero_le _
  | k + 1, _, _, .tup h => Nat.succ_le_succ (Das.depth h)
  | k + 1, _, _, .loc _ e h => Nat.succ_le_succ (Das.depth h)
theorem Das.depth {P : Nat → Prop} {st : Sto} : ∀ {k : Nat} {ds : List D} {ys : List PyData}, Das P st k ds ys → PyData.depthAll ys ≤ k
  | _, _, _, .nil => Nat.zero_le _
  | _, _, _, .cons a b => Nat.max_le.mpr ⟨Da.depth a, Das.depth b⟩
end
/-- a datum that repr can tell -/
structure Sm (B n : Nat) (y : PyData) : Prop where
  sh : y.showable = true
  lv : y.leavesShort B = true
  cl : y.canLay0 = true
  bk : y.bulk ≤ n
structure Sms (B n : Nat) (ys : List PyData) : Prop where
  sh : PyData.showableAll ys = true
  lv : PyData.leavesShortAll B ys = true
  cl : PyData.canLayAll0 ys = true
  bk : PyData.bulkAll ys ≤ n
theorem Sms.nil {B n : Nat} : Sms B n [] := ⟨rfl, rfl, rfl, Nat.zero_le _⟩
theorem Sms.cons {B n m : Nat} {y : PyData} {ys : List PyData} (h : Sm B n y) (k : Sms B m ys) : Sms B (n + 1 + m) (y :: ys) := by
  refine ⟨?_, ?_, ?_, ?_⟩
  · show (y.showable && PyData.showableAll ys) = true
    rw [h.sh, k.sh]; rfl
  · show (y.leavesShort B && PyData.leavesShortAll B ys) = true
    rw [h.lv, k.lv]; rfl
  · show (y.canLay0 && PyData.canLayAll0 ys) = true
    rw [h.cl, k.cl]; rfl
  · show y.bulk + 1 + PyData.bulkAll ys ≤ _
    have := h.bk
    have := k.bk
    omega
theorem Sms.mono {B n m : Nat} {ys : List PyData} (h : Sms B n ys) (k : n ≤ m) : Sms B m ys := ⟨h.sh, h.lv, h.cl, Nat.le_trans h.bk k⟩
theorem Sms.list {B n : Nat} {ys : List PyData} (h : Sms B n ys) : Sm B n (.list ys) := ⟨h.sh, h.lv, h.cl, h.bk⟩
theorem Sms.tuple {B n : Nat} {ys : List PyData} (h : Sms B n ys) : Sm B n (.tuple ys) := ⟨h.sh, h.lv, h.cl, h.bk⟩
def Va (P : Nat → Prop) (B : Nat) (st : Sto) (k n : Nat) (d : D) : Prop := ∃ y, Da P st k d y ∧ Sm B n y
def Vas (P : Nat → Prop) (B : Nat) (st : Sto) (k n : Nat) (ds : List D) : Prop := ∃ ys, Das P st k ds ys ∧ Sms B n ys
section
variable {P : Nat → Prop} {B : Nat} {st : Sto} {k n : Nat}
theorem va_non : Va P B st k n .non := ⟨_, .non, rfl, rfl, rfl, Nat.zero_le _⟩
theorem va_bl {b : Bool} : Va P B st k n (.bl b) := ⟨_, .bl, rfl, rfl, rfl, Nat.zero_le _⟩
theorem va_int {i : Int} (h : i.natAbs < 10 ^ (B - 1)) (hB : 2 ≤ B) (hB2 : B ≤ 500) : Va P B st k n (.int i) := by
  refine ⟨_, .int, ?_, ?_, rfl, Nat.zero_le _⟩
  · show decide (i.natAbs.log2 < 1920) = true
    refine decide_eq_true ?_
    by_cases z : i.natAbs = 0
    · rw [z]; decide
    · rw [Nat.log2_lt z]
      refine Nat.lt_of_lt_of_le h ?_
      refine Nat.le_trans (Nat.pow_le_pow_right (by decide) (show B - 1 ≤ 499 by omega)) ?_
      decide +kernel
  · show decide ((PyData.shown (.int i)).length ≤ B) = true
    refine decide_eq_true ?_
    have e := int_text_length_le10 (k := B - 1) (by omega) h
    show (Str.ofString (toString i)).length ≤ B
    rw [PySem.ofString_length]
    omega
theorem va_str {x : Str} (h : PyData.strOk x = true) (hn : x.length ≤ n) : Va P B st k n (.str x) := by
  refine ⟨_, .str, rfl, ?_, h, hn⟩
  show (x.cps.toList.all fun c => decide (c < 16 ^ 8)) = true
  have h0 : x.cps.all (· < 0x110000) = true := h
  simp only [List.all_eq_true, decide_eq_true_eq]
  intro c hcm
  have := (Array.all_eq_true_iff_forall_mem.mp h0) c (Array.mem_toList_iff.mp hcm)
  have e : (16 : Nat) ^ 8 = 4294967296 := by decide
  simp only [decide_eq_true_eq] at this
  omega
theorem vas_nil : Vas P B st k n [] := ⟨_, .nil, .nil⟩
theorem vas_cons {m : Nat} {d : D} {ds : List D} (h : Va P B st k n d) (h2 : Vas P B st k m ds) : Vas P B st k (n + 1 + m) (d :: ds) := by
  obtain ⟨y, a, b⟩ := h
  obtain ⟨ys, c, e⟩ := h2
  exact ⟨_, .cons a c, .cons b e⟩
theorem vas_all : ∀ {ds : List D}, (∀ d ∈ ds, Va P B st k n d) → Vas P B st k (ds.length * (n + 1)) ds
  | [], _ => vas_nil
  | d :: ds, h => by
    have := vas_cons (h d List.mem_cons_self) (vas_all fun e he => h e (List.mem_cons_of_mem _ he))
    rw [List.length_cons, Nat.add_mul, Nat.one_mul, Nat.add_comm]
    exact this
theorem Va.keep {P' : Nat → Prop} {st' : Sto} {k' n' : Nat} {d : D} (h : Va P B st k n d) (hp : ∀ n c, P n → st[n]? = some c → P' n ∧ st'[n]? = some c) (hk : k ≤ k') (hn : n ≤ n') : Va P' B st' k' n' d := by
  obtain ⟨y, a, b⟩ := h
  exact ⟨y, a.keep hp hk, b.sh, b.lv, b.cl, Nat.le_trans b.bk hn⟩
theorem Vas.keep {P' : Nat → Prop} {st' : Sto} {k' n' : Nat} {ds : List D} (h : Vas P B st k n ds) (hp : ∀ n c, P n → st[n]? = some c → P' n ∧ st'[n]? = some c) (hk : k ≤ k') (hn : n ≤ n') : Vas P' B st' k' n' ds := by
  obtain ⟨y, a, b⟩ := h
  exact ⟨y, a.keep hp hk, b.sh, b.lv, b.cl, Nat.le_trans b.bk hn⟩
theorem Va.mono {k' n' : Nat} {d : D} (h : Va P B st k n d) (hk : k ≤ k') (hn : n ≤ n') : Va P B st k' n' d := h.keep (fun _ _ a b => ⟨a, b⟩) hk hn
theorem Vas.mono {k' n' : Nat} {d : List D} (h : Vas P B st k n d) (hk : k ≤ k') (hn : n ≤ n') : Vas P B st k' n' d := h.keep (fun _ _ a b => ⟨a, b⟩) hk hn
theorem va_tup {ds : List D} (h : Vas P B st k n ds) : Va P B st (k + 1) n (.tup ds) := by
  obtain ⟨y, a, b⟩ := h
  exact ⟨_, .tup a, b.tuple⟩
theorem va_loc {m : Nat} {ds : List D} (p : P m) (e : st[m]? = some (.lst ds)) (h : Vas P B st k n ds) : Va P B st (k + 1) n (.loc m) := by
  obtain ⟨y, a, b⟩ := h
  exact ⟨_, .loc p e a, b.list⟩
/-- .. of no place -/
abbrev Pu (B k n : Nat) (d : D) : Prop := Va (fun _ => False) B [] k n d
abbrev Pus (B k n : Nat) (ds : List D) : Prop := Vas (fun _ => False) B [] k n ds
theorem Va.any {d : D} (h : Pu B k n d) : Va P B st k n d := h.keep (fun _ _ a => a.elim) (Nat.le_refl _) (Nat.le_refl _)
theorem Vas.any {d : List D} (h : Pus B k n d) : Vas P B st k n d := h.keep (fun _ _ a => a.elim) (Nat.le_refl _) (Nat.le_refl _)
theorem Va.repr {d : D} (h : Va P B st k n d) (hB : 8 ≤ B) (hk : k ≤ 64) (hn : (B + 2) * n + B ≤ sizeLine) : ∃ y, pyL 64 st d = some y ∧ reprD st d = some y.shown := by
  obtain ⟨y, a, b⟩ := h
  have e := a.py 64 hk
  refine ⟨y, e, ?_⟩
  have e2 : pyR st d = some y := by
    cases a with
    | loc _ e' _ => simp only [pyR, e']; exact e
    | _ => exact e
  unfold reprD
  rw [e2]
  have l1 := PyData.shown_le_bulk B hB y b.lv
  have l2 := Nat.mul_le_mul_left (B + 2) b.bk
  exact if_pos ⟨b.sh, by omega, by have := a.depth; omega⟩
def shD (ds : List D) : Str := match pyCs (fun _ => none) ds with
  | some ys => (PyData.list ys).shown
  | none => Str.empty
theorem rep_pure {m : Nat} {ds : List D} (e : st[m]? = some (.lst ds)) (h : Pus B k n ds) (hB : 8 ≤ B) (hk : k ≤ 63) (hn : (B + 2) * n + B ≤ sizeLine) : reprD st (.loc m) = some (shD ds) := by
  obtain ⟨ys, a, b⟩ := h
  have e0 := a.py k (Nat.le_refl _)
  have e1 : shD ds = (PyData.list ys).shown := by
    unfold shD
    obtain ⟨ys', h1, _⟩ : ∃ ys', Das (fun _ => False) [] k ds ys' ∧ True := ⟨ys, a, trivial⟩
    have z : pyCs (fun _ => none) ds = some ys := by
      have : ∀ (f : Nat), pyCs (gf [] f) ds = pyCs (fun _ => none) ds := fun f => by
        cases f with
        | zero => rfl
        | succ f => congr 1
      rw [← this k]; exact e0
    rw [z]
  have h' : Va (fun _ => True) B st (k + 1) n (.loc m) := va_loc trivial e (Vas.any ⟨ys, a, b⟩)
  obtain ⟨y, h1, h2⟩ := h'.repr hB (by omega) hn
  have : y = .list ys := by
    have q : Da (fun _ => True) st (k + 1) (.loc m) (.list ys) := .loc trivial e (a.keep (fun _ _ z => z.elim) (Nat.le_refl _))
    rw [q.py 64 (by omega)] at h1
    exact (Option.some.inj h1).symm
  rw [h2, this, e1]
end
/-! ### equality -/
theorem eqD_seq {P : Nat → Prop} {B k n : Nat} {st : Sto} {x y : D} (hx : Va P B st k n x) (hy : Va P B st k n y) (hk : k ≤ 64) (h : (∃ xs, x = .tup xs) ∨ ∃ m, x = .loc m) :
    ∃ a b, pyL 64 st x = some a ∧ pyL 64 st y = some b ∧ eqD st x y = some (PyData.eqv a b) := by
  obtain ⟨a, a1, a2⟩ := hx
  obtain ⟨b, b1, b2⟩ := hy
  have e1 := a1.py 64 hk
  have e2 := b1.py 64 hk
  have s1 : SeqAt.shaped a = true := by
    show (a.canLay0 && decide (a.depth ≤ 64)) = true
    rw [a2.cl, decide_eq_true (Nat.le_trans a1.depth hk)]; rfl
  have s2 : SeqAt.shaped b = true := by
    show (b.canLay0 && decide (b.depth ≤ 64)) = true
    rw [b2.cl, decide_eq_true (Nat.le_trans b1.depth hk)]; rfl
  refine ⟨a, b, e1, e2, ?_⟩
  rcases h with ⟨xs, rfl⟩ | ⟨m, rfl⟩
  · simp only [eqD, e1, e2, Option.bind_some, s1, s2, and_self, if_true]
  · simp only [eqD, e1, e2, Option.bind_some, s1, s2, and_self, if_true]
end Iv
set_option Elab.async false
set_option linter.all false
set_option maxRecDepth 100000
set_option maxHeartbeats 4000000
namespace Iv
open PySem PySem.Spec PyProof.Rows L2
/-- the bag b, its cells q -/
structure BagI (q b : Nat) (s : Sto) (cs : List Int) (k m : Int) : Prop where
  at_q : s[q]? = some (.lst (cs.map D.int))
  at_b : s[b]? = some (.lst [.loc q, .int k, .int m])
  pos : ∀ c ∈ cs, 0 ≤ c
  len : cs.length ≤ 63
  k0 : 0 ≤ k
  m0 : 0 ≤ m
  m1 : m < 2147483647
def Bag (q b : Nat) (s : Sto) : Prop := ∃ cs k m, BagI q b s cs k m
theorem BagI.keep {q b : Nat} {s s' : Sto} {cs : List Int} {k m : Int} (h : BagI q b s cs k m) (hq : s'[q]? = s[q]?) (hb : s'[b]? = s[b]?) : BagI q b s' cs k m := ⟨hq.trans h.at_q, hb.trans h.at_b, h.pos, h.len, h.k0, h.m0, h.m1⟩
theorem Bag.keep {q b : Nat} {s s' : Sto} (h : Bag q b s) (hq : s'[q]? = s[q]?) (hb : s'[b]? = s[b]?) : Bag q b s' := by
  obtain ⟨cs, k, m, h⟩ := h
  exact ⟨cs, k, m, h.keep hq hb⟩
theorem Bag.lt {q b : Nat} {s : Sto} (h : Bag q b s) : q < s.length ∧ b < s.length ∧ q ≠ b := by
  obtain ⟨cs, k, m, h⟩ := h
  refine ⟨(List.getElem?_eq_some_iff.mp h.at_q).1, (List.getElem?_eq_some_iff.mp h.at_b).1, fun e => ?_⟩
  subst e
  have h1 := h.at_q
  rw [h.at_b] at h1
  cases cs with
  | nil => cases h1
  | cons c cs => cases h1
theorem Bag.kx {q b : Nat} {X : List Nat} {s s' : Sto} (h : Bag q b s) (k : Kx X s s') (hq : q ∉ X) (hb : b ∉ X) : Bag q b s' := h.keep (k.2 q h.lt.1 hq) (k.2 b h.lt.2.1 hb)
theorem shaped_ints (cs : List Int) : SeqAt.shaped (.list (cs.map PyData.int)) = true := by
  have h1 : ∀ cs : List Int, PyData.canLayAll0 (cs.map PyData.int) = true := fun cs => by
    induction cs with
    | nil => rfl
    | cons c cs ih => exact ih
  have h2 : ∀ cs : List Int, PyData.depthAll (cs.map PyData.int) = 0 := fun cs => by
    induction cs with
    | nil => rfl
    | cons c cs ih => show max 0 (PyData.depthAll (cs.map PyData.int)) = 0; rw [ih]; rfl
  show (PyData.canLayAll0 (cs.map PyData.int) && decide (PyData.depthAll (cs.map PyData.int) + 1 ≤ 64)) = true
  rw [h1, h2]; rfl
theorem py_ints {g : Nat → Option PyData} : ∀ cs : List Int, pyCs g (cs.map D.int) = some (cs.map PyData.int)
  | [] => rfl
  | c :: cs => by
    show ((pyC g (.int c)).bind fun d => (pyCs g (cs.map D.int)).map (d :: ·)) = _
    rw [py_ints cs]; rfl
theorem pyL_ints {s : Sto} {n : Nat} {cs : List Int} (h : s[n]? = some (.lst (cs.map D.int))) : pyL 64 s (.loc n) = some (.list (cs.map PyData.int)) := by
  show (match s[n]? with
      | some (C.lst xs) => (pyCs (fun m => pyL 63 s (.loc m)) xs).map PyData.list
      | _ => none) = _
  simp only [h]
  rw [py_ints]; rfl
theorem eq_ints_nil {s : Sto} {n m : Nat} {cs : List Int} (h : s[n]? = some (.lst (cs.map D.int))) (h2 : s[m]? = some (.lst [])) : eqD s (.loc n) (.loc m) = some (decide (cs = [])) := by
  have e2 : pyL 64 s (.loc m) = some (.list []) := pyL_ints (cs := []) h2
  have z : SeqAt.shaped (.list []) = true := shaped_ints []
  simp only [eqD, pyL_ints h, e2, Option.bind_some, shaped_ints, z, and_self, if_true]
  cases cs <;> rfl
theorem eq_ints_tup {s : Sto} {cs : List Int} : eqD s (.tup (cs.map D.int)) (.tup []) = some (decide (cs = [])) := by
  have e1 : pyL 64 s (.tup (cs.map D.int)) = some (.tuple (cs.map PyData.int)) := by
    show (pyCs _ (cs.map D.int)).map PyData.tuple = _
    rw [py_ints]; rfl
  have z : ∀ cs : List Int, SeqAt.shaped (.tuple (cs.map PyData.int)) = true := shaped_ints
  have e2 : pyL 64 s (.tup []) = some (.tuple []) := rfl
  have z2 : SeqAt.shaped (.tuple []) = true := z []
  simp only [eqD, e1, e2, Option.bind_some, z, z2, and_self, if_true]
  cases cs <;> rfl
/-- 0 bag, 1 below, 2 cell, 3 found -/
def dw1 : Ss :=
    (.cons (.whl (.and (.cmp .Eq (.idx (.var 0) (.int 1)) (.int 0)) (.cmp .NotEq (.idx (.var 0) (.int 0)) (.lst .nil))) (.cons (.set (.nm 2) (.mth .pop (.idx (.var 0) (.int 0)) .nil)) (.cons (.seti (.var 0) (.int 1) (.ife (.cmp .Gt (.var 2) (.bin .Pow (.int 10) (.int 9))) (.var 2) (.int 0))) .nil)))
    (.cons (.ife (.cmp .Gt (.idx (.var 0) (.int 1)) (.int 0)) (.cons (.set (.nm 3) (.bin .Mod (.bi .int (.cons (.idx (.var 0) (.int 1)) .nil)) (.var 1))) (.cons (.seti (.var 0) (.int 1) (.bin .FloorDiv (.idx (.var 0) (.int 1)) (.var 1))) (.cons (.ret (.var 3)) .nil))) .nil)
    (.cons (.seti (.var 0) (.int 2) (.bin .Mod (.bi .int (.cons (.bin .Add (.bin .Mult (.idx (.var 0) (.int 2)) (.int 48271)) (.int 13)) .nil)) (.int 2147483647)))
    (.cons (.ret (.bin .Mod (.bi .int (.cons (.bin .FloorDiv (.bin .Mod (.bi .int (.cons (.bin .Mult (.idx (.var 0) (.int 2)) (.idx (.var 0) (.int 2))) .nil)) (.int 2147483629)) (.int 7)) .nil)) (.var 1)))
    .nil))))
theorem c_eq {s : Sto} {x y : D} {k : Bool} (h : eqD s x y = some k) : opC .Eq x y s = some k := h
theorem c_ne {s : Sto} {x y : D} {k : Bool} (h : eqD s x y = some k) : opC .NotEq x y s = some (!k) := congrArg (Option.map (!·)) h
theorem log2_of {i : Int} {k : Nat} (h : i.natAbs < 2 ^ k) (hk : 0 < k) : i.natAbs.log2 < k := by
  by_cases z : i.natAbs = 0
  · rw [z]; exact hk
  · exact (Nat.log2_lt z).mpr h
theorem draw_ok {p : Pg} {f n q b : Nat} {s : Sto} {j : Int} (hf : p.fn[f]? = some ⟨2, 4, dw1⟩) (hW : p.W = 1000000000) (B : Bag q b s) (hj : 0 < j) (hj2 : j.natAbs.log2 < 9000) :
    Wp (run p (n + 1) f [.loc b, .int j] s) fun d s' => ∃ r, d = .int r ∧ 0 ≤ r ∧ r < j ∧ Bag q b s' ∧ Kx [q, b] s s' := by
  have qb := B.lt.2.2
  have bq : b ≠ q := fun e => qb e.symm
  obtain ⟨cs, k, m, B⟩ := B
  have inq : ∀ {n}, q ∈ [q, b] ∨ n ≤ q := .inl (by simp)
  have inb : ∀ {n}, b ∈ [q, b] ∨ n ≤ b := .inl (by simp)
  have put : ∀ {s1 : Sto} {cs : List Int} {k m k' : Int}, BagI q b s1 cs k m → 0 ≤ k' → BagI q b (s1.set b (.lst [.loc q, .int k', .int m])) cs k' m := fun B h => ⟨set_old B.at_q bq, set_at B.at_b, B.pos, B.len, h, B.m0, B.m1⟩
  have push : ∀ {s1 : Sto} {cs : List Int} {k m : Int} (c : C), BagI q b s1 cs k m → BagI q b (s1 ++ [c]) cs k m := fun c B => ⟨push_old B.at_q, push_old B.at_b, B.pos, B.len, B.k0, B.m0, B.m1⟩
  refine run_fn hf rfl (by decide) ?_
  unfold dw1
  show Wp (evSs _ _ [some (.loc b), some (.int j), none, none] s) _
  (first | ((with_reducible show Wp (evSs _ _ (List.set _ _ _) _) _); simp only [List.set_cons_succ, List.set_cons_zero]) | with_reducible (first | apply s_cons | apply th_nx | apply th_rt | apply th_bk | apply th_ct | apply s_nil | apply s_set | apply s_par2 | apply s_seti | apply s_ife | apply s_ret | apply s_retN | apply s_exp | apply s_brk | apply s_cnt | apply s_pss | apply s_loop | apply rt_rt | apply rt_nx | apply wh_nx | apply wh_ct | apply wh_bk | apply wh_rt | apply w_int | apply w_non | apply w_bl | apply w_str | apply w_tup | apply w_lst | apply w_dct0 | apply es_nil | apply es_cons | apply w_bin | apply w_neg | apply w_cmp | apply w_chn | apply w_and | apply w_or | apply w_not | apply w_ife | apply w_idx | apply w_slc | apply w_rev | apply w_call | apply w_bi | apply w_isi | apply w_mth | apply w_lc | apply o_no | apply o_so | apply ts_nil | apply ts_cons | apply i_val | apply i_rng1 | apply i_rng2 | apply i_enu | apply i_zip | apply o_addI | apply o_subI | apply b_lenT | apply b_lenR | apply b_abs | apply b_intI | apply b_tupT | apply b_listT | apply l_tup | apply l_rol | apply bo_bl) | ((with_reducible apply s_augA); rfl) | ((with_reducible apply s_augS); rfl) | ((with_reducible apply w_var); rfl) | ((with_reducible apply w_glb); rfl) | ((with_reducible apply w_calk); rfl) | ((fail_if_success (with_reducible show ∃ k, opC .NotIn _ _ _ = some k ∧ _)); (fail_if_success (with_reducible show ∃ k, opC .In _ _ _ = some k ∧ _)); refine ⟨_, rfl, ?_⟩))
  have T : ∀ x s1 cs k m, BagI q b s1 cs k m → Kx [q, b] s s1 → Th (p.cf n) (.cons (.ife (.cmp .Gt (.idx (.var 0) (.int 1)) (.int 0)) (.cons (.set (.nm 3) (.bin .Mod (.bi .int (.cons (.idx (.var 0) (.int 1)) .nil)) (.var 1))) (.cons (.seti (.var 0) (.int 1) (.bin .FloorDiv (.idx (.var 0) (.int 1)) (.var 1))) (.cons (.ret (.var 3)) .nil))) .nil)
    (.cons (.seti (.var 0) (.int 2) (.bin .Mod (.bi .int (.cons (.bin .Add (.bin .Mult (.idx (.var 0) (.int 2)) (.int 48271)) (.int 13)) .nil)) (.int 2147483647)))
    (.cons (.ret (.bin .Mod (.bi .int (.cons (.bin .FloorDiv (.bin .Mod (.bi .int (.cons (.bin .Mult (.idx (.var 0) (.int 2)) (.idx (.var 0) (.int 2))) .nil)) (.int 2147483629)) (.int 7)) .nil)) (.var 1)))
    .nil))) (Rt fun d s' => ∃ r, d = .int r ∧ 0 ≤ r ∧ r < j ∧ Bag q b s' ∧ Kx [q, b] s s') (.nx [some (.loc b), some (.int j), x, none]) s1 := by
    intro x s1 cs k m B K
    (repeat (first | ((with_reducible show Wp (evSs _ _ (List.set _ _ _) _) _); simp only [List.set_cons_succ, List.set_cons_zero]) | with_reducible (first | apply s_cons | apply th_nx | apply th_rt | apply th_bk | apply th_ct | apply s_nil | apply s_set | apply s_par2 | apply s_seti | apply s_ife | apply s_ret | apply s_retN | apply s_exp | apply s_brk | apply s_cnt | apply s_pss | apply s_loop | apply rt_rt | apply rt_nx | apply wh_nx | apply wh_ct | apply wh_bk | apply wh_rt | apply w_int | apply w_non | apply w_bl | apply w_str | apply w_tup | apply w_lst | apply w_dct0 | apply es_nil | apply es_cons | apply w_bin | apply w_neg | apply w_cmp | apply w_chn | apply w_and | apply w_or | apply w_not | apply w_ife | apply w_idx | apply w_slc | apply w_rev | apply w_call | apply w_bi | apply w_isi | apply w_mth | apply w_lc | apply o_no | apply o_so | apply ts_nil | apply ts_cons | apply i_val | apply i_rng1 | apply i_rng2 | apply i_enu | apply i_zip | apply o_addI | apply o_subI | apply b_lenT | apply b_lenR | apply b_abs | apply b_intI | apply b_tupT | apply b_listT | apply l_tup | apply l_rol | apply bo_bl) | ((with_reducible apply s_augA); rfl) | ((with_reducible apply s_augS); rfl) | ((with_reducible apply w_var); rfl) | ((with_reducible apply w_glb); rfl) | ((with_reducible apply w_calk); rfl) | ((fail_if_success (with_reducible show ∃ k, opC .NotIn _ _ _ = some k ∧ _)); (fail_if_success (with_reducible show ∃ k, opC .In _ _ _ = some k ∧ _)); refine ⟨_, rfl, ?_⟩)))
    refine i_loc B.at_b (by rfl) ?_
    (repeat (first | ((with_reducible show Wp (evSs _ _ (List.set _ _ _) _) _); simp only [List.set_cons_succ, List.set_cons_zero]) | with_reducible (first | apply s_cons | apply th_nx | apply th_rt | apply th_bk | apply th_ct | apply s_nil | apply s_set | apply s_par2 | apply s_seti | apply s_ife | apply s_ret | apply s_retN | apply s_exp | apply s_brk | apply s_cnt | apply s_pss | apply s_loop | apply rt_rt | apply rt_nx | apply wh_nx | apply wh_ct | apply wh_bk | apply wh_rt | apply w_int | apply w_non | apply w_bl | apply w_str | apply w_tup | apply w_lst | apply w_dct0 | apply es_nil | apply es_cons | apply w_bin | apply w_neg | apply w_cmp | apply w_chn | apply w_and | apply w_or | apply w_not | apply w_ife | apply w_idx | apply w_slc | apply w_rev | apply w_call | apply w_bi | apply w_isi | apply w_mth | apply w_lc | apply o_no | apply o_so | apply ts_nil | apply ts_cons | apply i_val | apply i_rng1 | apply i_rng2 | apply i_enu | apply i_zip | apply o_addI | apply o_subI | apply b_lenT | apply b_lenR | apply b_abs | apply b_intI | apply b_tupT | apply b_listT | apply l_tup | apply l_rol | apply bo_bl) | ((with_reducible apply s_augA); rfl) | ((with_reducible apply s_augS); rfl) | ((with_reducible apply w_var); rfl) | ((with_reducible apply w_glb); rfl) | ((with_reducible apply w_calk); rfl) | ((fail_if_success (with_reducible show ∃ k, opC .NotIn _ _ _ = some k ∧ _)); (fail_if_success (with_reducible show ∃ k, opC .In _ _ _ = some k ∧ _)); refine ⟨_, rfl, ?_⟩)))
    refine ⟨fun h => ?_, fun h => ?_⟩
    · (repeat (first | ((with_reducible show Wp (evSs _ _ (List.set _ _ _) _) _); simp only [List.set_cons_succ, List.set_cons_zero]) | with_reducible (first | apply s_cons | apply th_nx | apply th_rt | apply th_bk | apply th_ct | apply s_nil | apply s_set | apply s_par2 | apply s_seti | apply s_ife | apply s_ret | apply s_retN | apply s_exp | apply s_brk | apply s_cnt | apply s_pss | apply s_loop | apply rt_rt | apply rt_nx | apply wh_nx | apply wh_ct | apply wh_bk | apply wh_rt | apply w_int | apply w_non | apply w_bl | apply w_str | apply w_tup | apply w_lst | apply w_dct0 | apply es_nil | apply es_cons | apply w_bin | apply w_neg | apply w_cmp | apply w_chn | apply w_and | apply w_or | apply w_not | apply w_ife | apply w_idx | apply w_slc | apply w_rev | apply w_call | apply w_bi | apply w_isi | apply w_mth | apply w_lc | apply o_no | apply o_so | apply ts_nil | apply ts_cons | apply i_val | apply i_rng1 | apply i_rng2 | apply i_enu | apply i_zip | apply o_addI | apply o_subI | apply b_lenT | apply b_lenR | apply b_abs | apply b_intI | apply b_tupT | apply b_listT | apply l_tup | apply l_rol | apply bo_bl) | ((with_reducible apply s_augA); rfl) | ((with_reducible apply s_augS); rfl) | ((with_reducible apply w_var); rfl) | ((with_reducible apply w_glb); rfl) | ((with_reducible apply w_calk); rfl) | ((fail_if_success (with_reducible show ∃ k, opC .NotIn _ _ _ = some k ∧ _)); (fail_if_success (with_reducible show ∃ k, opC .In _ _ _ = some k ∧ _)); refine ⟨_, rfl, ?_⟩)))
      refine i_loc B.at_b (by rfl) ?_
      (repeat (first | ((with_reducible show Wp (evSs _ _ (List.set _ _ _) _) _); simp only [List.set_cons_succ, List.set_cons_zero]) | with_reducible (first | apply s_cons | apply th_nx | apply th_rt | apply th_bk | apply th_ct | apply s_nil | apply s_set | apply s_par2 | apply s_seti | apply s_ife | apply s_ret | apply s_retN | apply s_exp | apply s_brk | apply s_cnt | apply s_pss | apply s_loop | apply rt_rt | apply rt_nx | apply wh_nx | apply wh_ct | apply wh_bk | apply wh_rt | apply w_int | apply w_non | apply w_bl | apply w_str | apply w_tup | apply w_lst | apply w_dct0 | apply es_nil | apply es_cons | apply w_bin | apply w_neg | apply w_cmp | apply w_chn | apply w_and | apply w_or | apply w_not | apply w_ife | apply w_idx | apply w_slc | apply w_rev | apply w_call | apply w_bi | apply w_isi | apply w_mth | apply w_lc | apply o_no | apply o_so | apply ts_nil | apply ts_cons | apply i_val | apply i_rng1 | apply i_rng2 | apply i_enu | apply i_zip | apply o_addI | apply o_subI | apply b_lenT | apply b_lenR | apply b_abs | apply b_intI | apply b_tupT | apply b_listT | apply l_tup | apply l_rol | apply bo_bl) | ((with_reducible apply s_augA); rfl) | ((with_reducible apply s_augS); rfl) | ((with_reducible apply w_var); rfl) | ((with_reducible apply w_glb); rfl) | ((with_reducible apply w_calk); rfl) | ((fail_if_success (with_reducible show ∃ k, opC .NotIn _ _ _ = some k ∧ _)); (fail_if_success (with_reducible show ∃ k, opC .In _ _ _ = some k ∧ _)); refine ⟨_, rfl, ?_⟩)))
      refine o_mod hj ?_
      (repeat (first | ((with_reducible show Wp (evSs _ _ (List.set _ _ _) _) _); simp only [List.set_cons_succ, List.set_cons_zero]) | with_reducible (first | apply s_cons | apply th_nx | apply th_rt | apply th_bk | apply th_ct | apply s_nil | apply s_set | apply s_par2 | apply s_seti | apply s_ife | apply s_ret | apply s_retN | apply s_exp | apply s_brk | apply s_cnt | apply s_pss | apply s_loop | apply rt_rt | apply rt_nx | apply wh_nx | apply wh_ct | apply wh_bk | apply wh_rt | apply w_int | apply w_non | apply w_bl | apply w_str | apply w_tup | apply w_lst | apply w_dct0 | apply es_nil | apply es_cons | apply w_bin | apply w_neg | apply w_cmp | apply w_chn | apply w_and | apply w_or | apply w_not | apply w_ife | apply w_idx | apply w_slc | apply w_rev | apply w_call | apply w_bi | apply w_isi | apply w_mth | apply w_lc | apply o_no | apply o_so | apply ts_nil | apply ts_cons | apply i_val | apply i_rng1 | apply i_rng2 | apply i_enu | apply i_zip | apply o_addI | apply o_subI | apply b_lenT | apply b_lenR | apply b_abs | apply b_intI | apply b_tupT | apply b_listT | apply l_tup | apply l_rol | apply bo_bl) | ((with_reducible apply s_augA); rfl) | ((with_reducible apply s_augS); rfl) | ((with_reducible apply w_var); rfl) | ((with_reducible apply w_glb); rfl) | ((with_reducible apply w_calk); rfl) | ((fail_if_success (with_reducible show ∃ k, opC .NotIn _ _ _ = some k ∧ _)); (fail_if_success (with_reducible show ∃ k, opC .In _ _ _ = some k ∧ _)); refine ⟨_, rfl, ?_⟩)))
      refine i_loc B.at_b (by rfl) ?_
      (repeat (first | ((with_reducible show Wp (evSs _ _ (List.set _ _ _) _) _); simp only [List.set_cons_succ, List.set_cons_zero]) | with_reducible (first | apply s_cons | apply th_nx | apply th_rt | apply th_bk | apply th_ct | apply s_nil | apply s_set | apply s_par2 | apply s_seti | apply s_ife | apply s_ret | apply s_retN | apply s_exp | apply s_brk | apply s_cnt | apply s_pss | apply s_loop | apply rt_rt | apply rt_nx | apply wh_nx | apply wh_ct | apply wh_bk | apply wh_rt | apply w_int | apply w_non | apply w_bl | apply w_str | apply w_tup | apply w_lst | apply w_dct0 | apply es_nil | apply es_cons | apply w_bin | apply w_neg | apply w_cmp | apply w_chn | apply w_and | apply w_or | apply w_not | apply w_ife | apply w_idx | apply w_slc | apply w_rev | apply w_call | apply w_bi | apply w_isi | apply w_mth | apply w_lc | apply o_no | apply o_so | apply ts_nil | apply ts_cons | apply i_val | apply i_rng1 | apply i_rng2 | apply i_enu | apply i_zip | apply o_addI | apply o_subI | apply b_lenT | apply b_lenR | apply b_abs | apply b_intI | apply b_tupT | apply b_listT | apply l_tup | apply l_rol | apply bo_bl) | ((with_reducible apply s_augA); rfl) | ((with_reducible apply s_augS); rfl) | ((with_reducible apply w_var); rfl) | ((with_reducible apply w_glb); rfl) | ((with_reducible apply w_calk); rfl) | ((fail_if_success (with_reducible show ∃ k, opC .NotIn _ _ _ = some k ∧ _)); (fail_if_success (with_reducible show ∃ k, opC .In _ _ _ = some k ∧ _)); refine ⟨_, rfl, ?_⟩)))
      refine o_fdiv hj hj2 ?_
      (repeat (first | ((with_reducible show Wp (evSs _ _ (List.set _ _ _) _) _); simp only [List.set_cons_succ, List.set_cons_zero]) | with_reducible (first | apply s_cons | apply th_nx | apply th_rt | apply th_bk | apply th_ct | apply s_nil | apply s_set | apply s_par2 | apply s_seti | apply s_ife | apply s_ret | apply s_retN | apply s_exp | apply s_brk | apply s_cnt | apply s_pss | apply s_loop | apply rt_rt | apply rt_nx | apply wh_nx | apply wh_ct | apply wh_bk | apply wh_rt | apply w_int | apply w_non | apply w_bl | apply w_str | apply w_tup | apply w_lst | apply w_dct0 | apply es_nil | apply es_cons | apply w_bin | apply w_neg | apply w_cmp | apply w_chn | apply w_and | apply w_or | apply w_not | apply w_ife | apply w_idx | apply w_slc | apply w_rev | apply w_call | apply w_bi | apply w_isi | apply w_mth | apply w_lc | apply o_no | apply o_so | apply ts_nil | apply ts_cons | apply i_val | apply i_rng1 | apply i_rng2 | apply i_enu | apply i_zip | apply o_addI | apply o_subI | apply b_lenT | apply b_lenR | apply b_abs | apply b_intI | apply b_tupT | apply b_listT | apply l_tup | apply l_rol | apply bo_bl) | ((with_reducible apply s_augA); rfl) | ((with_reducible apply s_augS); rfl) | ((with_reducible apply w_var); rfl) | ((with_reducible apply w_glb); rfl) | ((with_reducible apply w_calk); rfl) | ((fail_if_success (with_reducible show ∃ k, opC .NotIn _ _ _ = some k ∧ _)); (fail_if_success (with_reducible show ∃ k, opC .In _ _ _ = some k ∧ _)); refine ⟨_, rfl, ?_⟩)))
      refine ⟨_, opSet_at (j := 1) B.at_b (by rfl), ?_⟩
      (repeat (first | ((with_reducible show Wp (evSs _ _ (List.set _ _ _) _) _); simp only [List.set_cons_succ, List.set_cons_zero]) | with_reducible (first | apply s_cons | apply th_nx | apply th_rt | apply th_bk | apply th_ct | apply s_nil | apply s_set | apply s_par2 | apply s_seti | apply s_ife | apply s_ret | apply s_retN | apply s_exp | apply s_brk | apply s_cnt | apply s_pss | apply s_loop | apply rt_rt | apply rt_nx | apply wh_nx | apply wh_ct | apply wh_bk | apply wh_rt | apply w_int | apply w_non | apply w_bl | apply w_str | apply w_tup | apply w_lst | apply w_dct0 | apply es_nil | apply es_cons | apply w_bin | apply w_neg | apply w_cmp | apply w_chn | apply w_and | apply w_or | apply w_not | apply w_ife | apply w_idx | apply w_slc | apply w_rev | apply w_call | apply w_bi | apply w_isi | apply w_mth | apply w_lc | apply o_no | apply o_so | apply ts_nil | apply ts_cons | apply i_val | apply i_rng1 | apply i_rng2 | apply i_enu | apply i_zip | apply o_addI | apply o_subI | apply b_lenT | apply b_lenR | apply b_abs | apply b_intI | apply b_tupT | apply b_listT | apply l_tup | apply l_rol | apply bo_bl) | ((with_reducible apply s_augA); rfl) | ((with_reducible apply s_augS); rfl) | ((with_reducible apply w_var); rfl) | ((with_reducible apply w_glb); rfl) | ((with_reducible apply w_calk); rfl) | ((fail_if_success (with_reducible show ∃ k, opC .NotIn _ _ _ = some k ∧ _)); (fail_if_success (with_reducible show ∃ k, opC .In _ _ _ = some k ∧ _)); refine ⟨_, rfl, ?_⟩)))
      refine ⟨Int.emod_nonneg _ (by omega), Int.emod_lt_of_pos _ hj, ⟨_, _, _, put B (Int.ediv_nonneg B.k0 (by omega))⟩, K.set inb _⟩
    · (repeat (first | ((with_reducible show Wp (evSs _ _ (List.set _ _ _) _) _); simp only [List.set_cons_succ, List.set_cons_zero]) | with_reducible (first | apply s_cons | apply th_nx | apply th_rt | apply th_bk | apply th_ct | apply s_nil | apply s_set | apply s_par2 | apply s_seti | apply s_ife | apply s_ret | apply s_retN | apply s_exp | apply s_brk | apply s_cnt | apply s_pss | apply s_loop | apply rt_rt | apply rt_nx | apply wh_nx | apply wh_ct | apply wh_bk | apply wh_rt | apply w_int | apply w_non | apply w_bl | apply w_str | apply w_tup | apply w_lst | apply w_dct0 | apply es_nil | apply es_cons | apply w_bin | apply w_neg | apply w_cmp | apply w_chn | apply w_and | apply w_or | apply w_not | apply w_ife | apply w_idx | apply w_slc | apply w_rev | apply w_call | apply w_bi | apply w_isi | apply w_mth | apply w_lc | apply o_no | apply o_so | apply ts_nil | apply ts_cons | apply i_val | apply i_rng1 | apply i_rng2 | apply i_enu | apply i_zip | apply o_addI | apply o_subI | apply b_lenT | apply b_lenR | apply b_abs | apply b_intI | apply b_tupT | apply b_listT | apply l_tup | apply l_rol | apply bo_bl) | ((with_reducible apply s_augA); rfl) | ((with_reducible apply s_augS); rfl) | ((with_reducible apply w_var); rfl) | ((with_reducible apply w_glb); rfl) | ((with_reducible apply w_calk); rfl) | ((fail_if_success (with_reducible show ∃ k, opC .NotIn _ _ _ = some k ∧ _)); (fail_if_success (with_reducible show ∃ k, opC .In _ _ _ = some k ∧ _)); refine ⟨_, rfl, ?_⟩)))
      refine i_loc B.at_b (by rfl) ?_
      (repeat (first | ((with_reducible show Wp (evSs _ _ (List.set _ _ _) _) _); simp only [List.set_cons_succ, List.set_cons_zero]) | with_reducible (first | apply s_cons | apply th_nx | apply th_rt | apply th_bk | apply th_ct | apply s_nil | apply s_set | apply s_par2 | apply s_seti | apply s_ife | apply s_ret | apply s_retN | apply s_exp | apply s_brk | apply s_cnt | apply s_pss | apply s_loop | apply rt_rt | apply rt_nx | apply wh_nx | apply wh_ct | apply wh_bk | apply wh_rt | apply w_int | apply w_non | apply w_bl | apply w_str | apply w_tup | apply w_lst | apply w_dct0 | apply es_nil | apply es_cons | apply w_bin | apply w_neg | apply w_cmp | apply w_chn | apply w_and | apply w_or | apply w_not | apply w_ife | apply w_idx | apply w_slc | apply w_rev | apply w_call | apply w_bi | apply w_isi | apply w_mth | apply w_lc | apply o_no | apply o_so | apply ts_nil | apply ts_cons | apply i_val | apply i_rng1 | apply i_rng2 | apply i_enu | apply i_zip | apply o_addI | apply o_subI | apply b_lenT | apply b_lenR | apply b_abs | apply b_intI | apply b_tupT | apply b_listT | apply l_tup | apply l_rol | apply bo_bl) | ((with_reducible apply s_augA); rfl) | ((with_reducible apply s_augS); rfl) | ((with_reducible apply w_var); rfl) | ((with_reducible apply w_glb); rfl) | ((with_reducible apply w_calk); rfl) | ((fail_if_success (with_reducible show ∃ k, opC .NotIn _ _ _ = some k ∧ _)); (fail_if_success (with_reducible show ∃ k, opC .In _ _ _ = some k ∧ _)); refine ⟨_, rfl, ?_⟩)))
      have m0 := B.m0
      have m1 := B.m1
      refine o_mulI (by have := log2_of (i := m) (k := 100) (by omega) (by decide); have : (48271 : Int).natAbs.log2 < 100 := by decide
                        omega) ?_
      (repeat (first | ((with_reducible show Wp (evSs _ _ (List.set _ _ _) _) _); simp only [List.set_cons_succ, List.set_cons_zero]) | with_reducible (first | apply s_cons | apply th_nx | apply th_rt | apply th_bk | apply th_ct | apply s_nil | apply s_set | apply s_par2 | apply s_seti | apply s_ife | apply s_ret | apply s_retN | apply s_exp | apply s_brk | apply s_cnt | apply s_pss | apply s_loop | apply rt_rt | apply rt_nx | apply wh_nx | apply wh_ct | apply wh_bk | apply wh_rt | apply w_int | apply w_non | apply w_bl | apply w_str | apply w_tup | apply w_lst | apply w_dct0 | apply es_nil | apply es_cons | apply w_bin | apply w_neg | apply w_cmp | apply w_chn | apply w_and | apply w_or | apply w_not | apply w_ife | apply w_idx | apply w_slc | apply w_rev | apply w_call | apply w_bi | apply w_isi | apply w_mth | apply w_lc | apply o_no | apply o_so | apply ts_nil | apply ts_cons | apply i_val | apply i_rng1 | apply i_rng2 | apply i_enu | apply i_zip | apply o_addI | apply o_subI | apply b_lenT | apply b_lenR | apply b_abs | apply b_intI | apply b_tupT | apply b_listT | apply l_tup | apply l_rol | apply bo_bl) | ((with_reducible apply s_augA); rfl) | ((with_reducible apply s_augS); rfl) | ((with_reducible apply w_var); rfl) | ((with_reducible apply w_glb); rfl) | ((with_reducible apply w_calk); rfl) | ((fail_if_success (with_reducible show ∃ k, opC .NotIn _ _ _ = some k ∧ _)); (fail_if_success (with_reducible show ∃ k, opC .In _ _ _ = some k ∧ _)); refine ⟨_, rfl, ?_⟩)))
      refine o_mod (by decide) ?_
      (repeat (first | ((with_reducible show Wp (evSs _ _ (List.set _ _ _) _) _); simp only [List.set_cons_succ, List.set_cons_zero]) | with_reducible (first | apply s_cons | apply th_nx | apply th_rt | apply th_bk | apply th_ct | apply s_nil | apply s_set | apply s_par2 | apply s_seti | apply s_ife | apply s_ret | apply s_retN | apply s_exp | apply s_brk | apply s_cnt | apply s_pss | apply s_loop | apply rt_rt | apply rt_nx | apply wh_nx | apply wh_ct | apply wh_bk | apply wh_rt | apply w_int | apply w_non | apply w_bl | apply w_str | apply w_tup | apply w_lst | apply w_dct0 | apply es_nil | apply es_cons | apply w_bin | apply w_neg | apply w_cmp | apply w_chn | apply w_and | apply w_or | apply w_not | apply w_ife | apply w_idx | apply w_slc | apply w_rev | apply w_call | apply w_bi | apply w_isi | apply w_mth | apply w_lc | apply o_no | apply o_so | apply ts_nil | apply ts_cons | apply i_val | apply i_rng1 | apply i_rng2 | apply i_enu | apply i_zip | apply o_addI | apply o_subI | apply b_lenT | apply b_lenR | apply b_abs | apply b_intI | apply b_tupT | apply b_listT | apply l_tup | apply l_rol | apply bo_bl) | ((with_reducible apply s_augA); rfl) | ((with_reducible apply s_augS); rfl) | ((with_reducible apply w_var); rfl) | ((with_reducible apply w_glb); rfl) | ((with_reducible apply w_calk); rfl) | ((fail_if_success (with_reducible show ∃ k, opC .NotIn _ _ _ = some k ∧ _)); (fail_if_success (with_reducible show ∃ k, opC .In _ _ _ = some k ∧ _)); refine ⟨_, rfl, ?_⟩)))
      refine ⟨_, opSet_at (j := 2) B.at_b (by rfl), ?_⟩
      have p0 : 0 ≤ (m * 48271 + 13) % 2147483647 := Int.emod_nonneg _ (by omega)
      have p1 : (m * 48271 + 13) % 2147483647 < 2147483647 := Int.emod_lt_of_pos _ (by omega)
      have B' : BagI q b (s1.set b (.lst [.loc q, .int k, .int ((m * 48271 + 13) % 2147483647)])) cs k ((m * 48271 + 13) % 2147483647) := ⟨set_old B.at_q bq, set_at B.at_b, B.pos, B.len, B.k0, p0, p1⟩
      (repeat (first | ((with_reducible show Wp (evSs _ _ (List.set _ _ _) _) _); simp only [List.set_cons_succ, List.set_cons_zero]) | with_reducible (first | apply s_cons | apply th_nx | apply th_rt | apply th_bk | apply th_ct | apply s_nil | apply s_set | apply s_par2 | apply s_seti | apply s_ife | apply s_ret | apply s_retN | apply s_exp | apply s_brk | apply s_cnt | apply s_pss | apply s_loop | apply rt_rt | apply rt_nx | apply wh_nx | apply wh_ct | apply wh_bk | apply wh_rt | apply w_int | apply w_non | apply w_bl | apply w_str | apply w_tup | apply w_lst | apply w_dct0 | apply es_nil | apply es_cons | apply w_bin | apply w_neg | apply w_cmp | apply w_chn | apply w_and | apply w_or | apply w_not | apply w_ife | apply w_idx | apply w_slc | apply w_rev | apply w_call | apply w_bi | apply w_isi | apply w_mth | apply w_lc | apply o_no | apply o_so | apply ts_nil | apply ts_cons | apply i_val | apply i_rng1 | apply i_rng2 | apply i_enu | apply i_zip | apply o_addI | apply o_subI | apply b_lenT | apply b_lenR | apply b_abs | apply b_intI | apply b_tupT | apply b_listT | apply l_tup | apply l_rol | apply bo_bl) | ((with_reducible apply s_augA); rfl) | ((with_reducible apply s_augS); rfl) | ((with_reducible apply w_var); rfl) | ((with_reducible apply w_glb); rfl) | ((with_reducible apply w_calk); rfl) | ((fail_if_success (with_reducible show ∃ k, opC .NotIn _ _ _ = some k ∧ _)); (fail_if_success (with_reducible show ∃ k, opC .In _ _ _ = some k ∧ _)); refine ⟨_, rfl, ?_⟩)))
      refine i_loc B'.at_b (by rfl) ?_
      (repeat (first | ((with_reducible show Wp (evSs _ _ (List.set _ _ _) _) _); simp only [List.set_cons_succ, List.set_cons_zero]) | with_reducible (first | apply s_cons | apply th_nx | apply th_rt | apply th_bk | apply th_ct | apply s_nil | apply s_set | apply s_par2 | apply s_seti | apply s_ife | apply s_ret | apply s_retN | apply s_exp | apply s_brk | apply s_cnt | apply s_pss | apply s_loop | apply rt_rt | apply rt_nx | apply wh_nx | apply wh_ct | apply wh_bk | apply wh_rt | apply w_int | apply w_non | apply w_bl | apply w_str | apply w_tup | apply w_lst | apply w_dct0 | apply es_nil | apply es_cons | apply w_bin | apply w_neg | apply w_cmp | apply w_chn | apply w_and | apply w_or | apply w_not | apply w_ife | apply w_idx | apply w_slc | apply w_rev | apply w_call | apply w_bi | apply w_isi | apply w_mth | apply w_lc | apply o_no | apply o_so | apply ts_nil | apply ts_cons | apply i_val | apply i_rng1 | apply i_rng2 | apply i_enu | apply i_zip | apply o_addI | apply o_subI | apply b_lenT | apply b_lenR | apply b_abs | apply b_intI | apply b_tupT | apply b_listT | apply l_tup | apply l_rol | apply bo_bl) | ((with_reducible apply s_augA); rfl) | ((with_reducible apply s_augS); rfl) | ((with_reducible apply w_var); rfl) | ((with_reducible apply w_glb); rfl) | ((with_reducible apply w_calk); rfl) | ((fail_if_success (with_reducible show ∃ k, opC .NotIn _ _ _ = some k ∧ _)); (fail_if_success (with_reducible show ∃ k, opC .In _ _ _ = some k ∧ _)); refine ⟨_, rfl, ?_⟩)))
      refine i_loc B'.at_b (by rfl) ?_
      have l := log2_of (i := (m * 48271 + 13) % 2147483647) (k := 100) (by omega) (by decide)
      refine o_mulI (by omega) ?_
      (repeat (first | ((with_reducible show Wp (evSs _ _ (List.set _ _ _) _) _); simp only [List.set_cons_succ, List.set_cons_zero]) | with_reducible (first | apply s_cons | apply th_nx | apply th_rt | apply th_bk | apply th_ct | apply s_nil | apply s_set | apply s_par2 | apply s_seti | apply s_ife | apply s_ret | apply s_retN | apply s_exp | apply s_brk | apply s_cnt | apply s_pss | apply s_loop | apply rt_rt | apply rt_nx | apply wh_nx | apply wh_ct | apply wh_bk | apply wh_rt | apply w_int | apply w_non | apply w_bl | apply w_str | apply w_tup | apply w_lst | apply w_dct0 | apply es_nil | apply es_cons | apply w_bin | apply w_neg | apply w_cmp | apply w_chn | apply w_and | apply w_or | apply w_not | apply w_ife | apply w_idx | apply w_slc | apply w_rev | apply w_call | apply w_bi | apply w_isi | apply w_mth | apply w_lc | apply o_no | apply o_so | apply ts_nil | apply ts_cons | apply i_val | apply i_rng1 | apply i_rng2 | apply i_enu | apply i_zip | apply o_addI | apply o_subI | apply b_lenT | apply b_lenR | apply b_abs | apply b_intI | apply b_tupT | apply b_listT | apply l_tup | apply l_rol | apply bo_bl) | ((with_reducible apply s_augA); rfl) | ((with_reducible apply s_augS); rfl) | ((with_reducible apply w_var); rfl) | ((with_reducible apply w_glb); rfl) | ((with_reducible apply w_calk); rfl) | ((fail_if_success (with_reducible show ∃ k, opC .NotIn _ _ _ = some k ∧ _)); (fail_if_success (with_reducible show ∃ k, opC .In _ _ _ = some k ∧ _)); refine ⟨_, rfl, ?_⟩)))
      refine o_mod (by decide) ?_
      (repeat (first | ((with_reducible show Wp (evSs _ _ (List.set _ _ _) _) _); simp only [List.set_cons_succ, List.set_cons_zero]) | with_reducible (first | apply s_cons | apply th_nx | apply th_rt | apply th_bk | apply th_ct | apply s_nil | apply s_set | apply s_par2 | apply s_seti | apply s_ife | apply s_ret | apply s_retN | apply s_exp | apply s_brk | apply s_cnt | apply s_pss | apply s_loop | apply rt_rt | apply rt_nx | apply wh_nx | apply wh_ct | apply wh_bk | apply wh_rt | apply w_int | apply w_non | apply w_bl | apply w_str | apply w_tup | apply w_lst | apply w_dct0 | apply es_nil | apply es_cons | apply w_bin | apply w_neg | apply w_cmp | apply w_chn | apply w_and | apply w_or | apply w_not | apply w_ife | apply w_idx | apply w_slc | apply w_rev | apply w_call | apply w_bi | apply w_isi | apply w_mth | apply w_lc | apply o_no | apply o_so | apply ts_nil | apply ts_cons | apply i_val | apply i_rng1 | apply i_rng2 | apply i_enu | apply i_zip | apply o_addI | apply o_subI | apply b_lenT | apply b_lenR | apply b_abs | apply b_intI | apply b_tupT | apply b_listT | apply l_tup | apply l_rol | apply bo_bl) | ((with_reducible apply s_augA); rfl) | ((with_reducible apply s_augS); rfl) | ((with_reducible apply w_var); rfl) | ((with_reducible apply w_glb); rfl) | ((with_reducible apply w_calk); rfl) | ((fail_if_success (with_reducible show ∃ k, opC .NotIn _ _ _ = some k ∧ _)); (fail_if_success (with_reducible show ∃ k, opC .In _ _ _ = some k ∧ _)); refine ⟨_, rfl, ?_⟩)))
      refine o_fdiv (by decide) (by decide) ?_
      (repeat (first | ((with_reducible show Wp (evSs _ _ (List.set _ _ _) _) _); simp only [List.set_cons_succ, List.set_cons_zero]) | with_reducible (first | apply s_cons | apply th_nx | apply th_rt | apply th_bk | apply th_ct | apply s_nil | apply s_set | apply s_par2 | apply s_seti | apply s_ife | apply s_ret | apply s_retN | apply s_exp | apply s_brk | apply s_cnt | apply s_pss | apply s_loop | apply rt_rt | apply rt_nx | apply wh_nx | apply wh_ct | apply wh_bk | apply wh_rt | apply w_int | apply w_non | apply w_bl | apply w_str | apply w_tup | apply w_lst | apply w_dct0 | apply es_nil | apply es_cons | apply w_bin | apply w_neg | apply w_cmp | apply w_chn | apply w_and | apply w_or | apply w_not | apply w_ife | apply w_idx | apply w_slc | apply w_rev | apply w_call | apply w_bi | apply w_isi | apply w_mth | apply w_lc | apply o_no | apply o_so | apply ts_nil | apply ts_cons | apply i_val | apply i_rng1 | apply i_rng2 | apply i_enu | apply i_zip | apply o_addI | apply o_subI | apply b_lenT | apply b_lenR | apply b_abs | apply b_intI | apply b_tupT | apply b_listT | apply l_tup | apply l_rol | apply bo_bl) | ((with_reducible apply s_augA); rfl) | ((with_reducible apply s_augS); rfl) | ((with_reducible apply w_var); rfl) | ((with_reducible apply w_glb); rfl) | ((with_reducible apply w_calk); rfl) | ((fail_if_success (with_reducible show ∃ k, opC .NotIn _ _ _ = some k ∧ _)); (fail_if_success (with_reducible show ∃ k, opC .In _ _ _ = some k ∧ _)); refine ⟨_, rfl, ?_⟩)))
      refine o_mod hj ?_
      (repeat (first | ((with_reducible show Wp (evSs _ _ (List.set _ _ _) _) _); simp only [List.set_cons_succ, List.set_cons_zero]) | with_reducible (first | apply s_cons | apply th_nx | apply th_rt | apply th_bk | apply th_ct | apply s_nil | apply s_set | apply s_par2 | apply s_seti | apply s_ife | apply s_ret | apply s_retN | apply s_exp | apply s_brk | apply s_cnt | apply s_pss | apply s_loop | apply rt_rt | apply rt_nx | apply wh_nx | apply wh_ct | apply wh_bk | apply wh_rt | apply w_int | apply w_non | apply w_bl | apply w_str | apply w_tup | apply w_lst | apply w_dct0 | apply es_nil | apply es_cons | apply w_bin | apply w_neg | apply w_cmp | apply w_chn | apply w_and | apply w_or | apply w_not | apply w_ife | apply w_idx | apply w_slc | apply w_rev | apply w_call | apply w_bi | apply w_isi | apply w_mth | apply w_lc | apply o_no | apply o_so | apply ts_nil | apply ts_cons | apply i_val | apply i_rng1 | apply i_rng2 | apply i_enu | apply i_zip | apply o_addI | apply o_subI | apply b_lenT | apply b_lenR | apply b_abs | apply b_intI | apply b_tupT | apply b_listT | apply l_tup | apply l_rol | apply bo_bl) | ((with_reducible apply s_augA); rfl) | ((with_reducible apply s_augS); rfl) | ((with_reducible apply w_var); rfl) | ((with_reducible apply w_glb); rfl) | ((with_reducible apply w_calk); rfl) | ((fail_if_success (with_reducible show ∃ k, opC .NotIn _ _ _ = some k ∧ _)); (fail_if_success (with_reducible show ∃ k, opC .In _ _ _ = some k ∧ _)); refine ⟨_, rfl, ?_⟩)))
      refine ⟨Int.emod_nonneg _ (by omega), Int.emod_lt_of_pos _ hj, ⟨_, _, _, B'⟩, K.set inb _⟩
  refine s_whl (fun t e s' => ∃ x cs k m, e = [some (.loc b), some (.int j), x, none] ∧ BagI q b s' cs k m ∧ cs.length = t ∧ Kx [q, b] s s') cs.length ⟨none, cs, k, m, rfl, B, rfl, .refl⟩ ?_ ?_
  · show _ < p.W
    rw [hW]
    have := B.len
    omega
  rintro t e s1 ⟨x, cs, k, m, rfl, B, rfl, K⟩
  (repeat (first | ((with_reducible show Wp (evSs _ _ (List.set _ _ _) _) _); simp only [List.set_cons_succ, List.set_cons_zero]) | with_reducible (first | apply s_cons | apply th_nx | apply th_rt | apply th_bk | apply th_ct | apply s_nil | apply s_set | apply s_par2 | apply s_seti | apply s_ife | apply s_ret | apply s_retN | apply s_exp | apply s_brk | apply s_cnt | apply s_pss | apply s_loop | apply rt_rt | apply rt_nx | apply wh_nx | apply wh_ct | apply wh_bk | apply wh_rt | apply w_int | apply w_non | apply w_bl | apply w_str | apply w_tup | apply w_lst | apply w_dct0 | apply es_nil | apply es_cons | apply w_bin | apply w_neg | apply w_cmp | apply w_chn | apply w_and | apply w_or | apply w_not | apply w_ife | apply w_idx | apply w_slc | apply w_rev | apply w_call | apply w_bi | apply w_isi | apply w_mth | apply w_lc | apply o_no | apply o_so | apply ts_nil | apply ts_cons | apply i_val | apply i_rng1 | apply i_rng2 | apply i_enu | apply i_zip | apply o_addI | apply o_subI | apply b_lenT | apply b_lenR | apply b_abs | apply b_intI | apply b_tupT | apply b_listT | apply l_tup | apply l_rol | apply bo_bl) | ((with_reducible apply s_augA); rfl) | ((with_reducible apply s_augS); rfl) | ((with_reducible apply w_var); rfl) | ((with_reducible apply w_glb); rfl) | ((with_reducible apply w_calk); rfl) | ((fail_if_success (with_reducible show ∃ k, opC .NotIn _ _ _ = some k ∧ _)); (fail_if_success (with_reducible show ∃ k, opC .In _ _ _ = some k ∧ _)); refine ⟨_, rfl, ?_⟩)))
  refine i_loc B.at_b (by rfl) ?_
  (repeat (first | ((with_reducible show Wp (evSs _ _ (List.set _ _ _) _) _); simp only [List.set_cons_succ, List.set_cons_zero]) | with_reducible (first | apply s_cons | apply th_nx | apply th_rt | apply th_bk | apply th_ct | apply s_nil | apply s_set | apply s_par2 | apply s_seti | apply s_ife | apply s_ret | apply s_retN | apply s_exp | apply s_brk | apply s_cnt | apply s_pss | apply s_loop | apply rt_rt | apply rt_nx | apply wh_nx | apply wh_ct | apply wh_bk | apply wh_rt | apply w_int | apply w_non | apply w_bl | apply w_str | apply w_tup | apply w_lst | apply w_dct0 | apply es_nil | apply es_cons | apply w_bin | apply w_neg | apply w_cmp | apply w_chn | apply w_and | apply w_or | apply w_not | apply w_ife | apply w_idx | apply w_slc | apply w_rev | apply w_call | apply w_bi | apply w_isi | apply w_mth | apply w_lc | apply o_no | apply o_so | apply ts_nil | apply ts_cons | apply i_val | apply i_rng1 | apply i_rng2 | apply i_enu | apply i_zip | apply o_addI | apply o_subI | apply b_lenT | apply b_lenR | apply b_abs | apply b_intI | apply b_tupT | apply b_listT | apply l_tup | apply l_rol | apply bo_bl) | ((with_reducible apply s_augA); rfl) | ((with_reducible apply s_augS); rfl) | ((with_reducible apply w_var); rfl) | ((with_reducible apply w_glb); rfl) | ((with_reducible apply w_calk); rfl) | ((fail_if_success (with_reducible show ∃ k, opC .NotIn _ _ _ = some k ∧ _)); (fail_if_success (with_reducible show ∃ k, opC .In _ _ _ = some k ∧ _)); refine ⟨_, rfl, ?_⟩)))
  refine ⟨fun h => ?_, fun h => ?_⟩
  · (repeat (first | ((with_reducible show Wp (evSs _ _ (List.set _ _ _) _) _); simp only [List.set_cons_succ, List.set_cons_zero]) | with_reducible (first | apply s_cons | apply th_nx | apply th_rt | apply th_bk | apply th_ct | apply s_nil | apply s_set | apply s_par2 | apply s_seti | apply s_ife | apply s_ret | apply s_retN | apply s_exp | apply s_brk | apply s_cnt | apply s_pss | apply s_loop | apply rt_rt | apply rt_nx | apply wh_nx | apply wh_ct | apply wh_bk | apply wh_rt | apply w_int | apply w_non | apply w_bl | apply w_str | apply w_tup | apply w_lst | apply w_dct0 | apply es_nil | apply es_cons | apply w_bin | apply w_neg | apply w_cmp | apply w_chn | apply w_and | apply w_or | apply w_not | apply w_ife | apply w_idx | apply w_slc | apply w_rev | apply w_call | apply w_bi | apply w_isi | apply w_mth | apply w_lc | apply o_no | apply o_so | apply ts_nil | apply ts_cons | apply i_val | apply i_rng1 | apply i_rng2 | apply i_enu | apply i_zip | apply o_addI | apply o_subI | apply b_lenT | apply b_lenR | apply b_abs | apply b_intI | apply b_tupT | apply b_listT | apply l_tup | apply l_rol | apply bo_bl) | ((with_reducible apply s_augA); rfl) | ((with_reducible apply s_augS); rfl) | ((with_reducible apply w_var); rfl) | ((with_reducible apply w_glb); rfl) | ((with_reducible apply w_calk); rfl) | ((fail_if_success (with_reducible show ∃ k, opC .NotIn _ _ _ = some k ∧ _)); (fail_if_success (with_reducible show ∃ k, opC .In _ _ _ = some k ∧ _)); refine ⟨_, rfl, ?_⟩)))
    refine i_loc B.at_b (by rfl) ?_
    (repeat (first | ((with_reducible show Wp (evSs _ _ (List.set _ _ _) _) _); simp only [List.set_cons_succ, List.set_cons_zero]) | with_reducible (first | apply s_cons | apply th_nx | apply th_rt | apply th_bk | apply th_ct | apply s_nil | apply s_set | apply s_par2 | apply s_seti | apply s_ife | apply s_ret | apply s_retN | apply s_exp | apply s_brk | apply s_cnt | apply s_pss | apply s_loop | apply rt_rt | apply rt_nx | apply wh_nx | apply wh_ct | apply wh_bk | apply wh_rt | apply w_int | apply w_non | apply w_bl | apply w_str | apply w_tup | apply w_lst | apply w_dct0 | apply es_nil | apply es_cons | apply w_bin | apply w_neg | apply w_cmp | apply w_chn | apply w_and | apply w_or | apply w_not | apply w_ife | apply w_idx | apply w_slc | apply w_rev | apply w_call | apply w_bi | apply w_isi | apply w_mth | apply w_lc | apply o_no | apply o_so | apply ts_nil | apply ts_cons | apply i_val | apply i_rng1 | apply i_rng2 | apply i_enu | apply i_zip | apply o_addI | apply o_subI | apply b_lenT | apply b_lenR | apply b_abs | apply b_intI | apply b_tupT | apply b_listT | apply l_tup | apply l_rol | apply bo_bl) | ((with_reducible apply s_augA); rfl) | ((with_reducible apply s_augS); rfl) | ((with_reducible apply w_var); rfl) | ((with_reducible apply w_glb); rfl) | ((with_reducible apply w_calk); rfl) | ((fail_if_success (with_reducible show ∃ k, opC .NotIn _ _ _ = some k ∧ _)); (fail_if_success (with_reducible show ∃ k, opC .In _ _ _ = some k ∧ _)); refine ⟨_, rfl, ?_⟩)))
    refine ⟨_, c_ne (eq_ints_nil (push_old B.at_q) push_at), ?_⟩
    (repeat (first | ((with_reducible show Wp (evSs _ _ (List.set _ _ _) _) _); simp only [List.set_cons_succ, List.set_cons_zero]) | with_reducible (first | apply s_cons | apply th_nx | apply th_rt | apply th_bk | apply th_ct | apply s_nil | apply s_set | apply s_par2 | apply s_seti | apply s_ife | apply s_ret | apply s_retN | apply s_exp | apply s_brk | apply s_cnt | apply s_pss | apply s_loop | apply rt_rt | apply rt_nx | apply wh_nx | apply wh_ct | apply wh_bk | apply wh_rt | apply w_int | apply w_non | apply w_bl | apply w_str | apply w_tup | apply w_lst | apply w_dct0 | apply es_nil | apply es_cons | apply w_bin | apply w_neg | apply w_cmp | apply w_chn | apply w_and | apply w_or | apply w_not | apply w_ife | apply w_idx | apply w_slc | apply w_rev | apply w_call | apply w_bi | apply w_isi | apply w_mth | apply w_lc | apply o_no | apply o_so | apply ts_nil | apply ts_cons | apply i_val | apply i_rng1 | apply i_rng2 | apply i_enu | apply i_zip | apply o_addI | apply o_subI | apply b_lenT | apply b_lenR | apply b_abs | apply b_intI | apply b_tupT | apply b_listT | apply l_tup | apply l_rol | apply bo_bl) | ((with_reducible apply s_augA); rfl) | ((with_reducible apply s_augS); rfl) | ((with_reducible apply w_var); rfl) | ((with_reducible apply w_glb); rfl) | ((with_reducible apply w_calk); rfl) | ((fail_if_success (with_reducible show ∃ k, opC .NotIn _ _ _ = some k ∧ _)); (fail_if_success (with_reducible show ∃ k, opC .In _ _ _ = some k ∧ _)); refine ⟨_, rfl, ?_⟩)))
    refine ⟨fun h => ?_, fun h => ?_⟩
    · have B1 := push (C.lst []) B
      have hne : cs ≠ [] := by simpa using h
      obtain ⟨ds, c, rfl⟩ : ∃ ds c, cs = ds ++ [c] := ⟨cs.dropLast, cs.getLast hne, (List.dropLast_concat_getLast hne).symm⟩
      have hq := B1.at_q
      rw [List.map_append] at hq
      have c0 : 0 ≤ c := B.pos c (by simp)
      have B2 : BagI q b ((s1 ++ [C.lst []]).set q (.lst (ds.map D.int))) ds k m := ⟨set_at hq, set_old B1.at_b qb, fun c h => B.pos c (by simp [h]), by have := B.len; simp at this; omega, B.k0, B.m0, B.m1⟩
      (repeat (first | ((with_reducible show Wp (evSs _ _ (List.set _ _ _) _) _); simp only [List.set_cons_succ, List.set_cons_zero]) | with_reducible (first | apply s_cons | apply th_nx | apply th_rt | apply th_bk | apply th_ct | apply s_nil | apply s_set | apply s_par2 | apply s_seti | apply s_ife | apply s_ret | apply s_retN | apply s_exp | apply s_brk | apply s_cnt | apply s_pss | apply s_loop | apply rt_rt | apply rt_nx | apply wh_nx | apply wh_ct | apply wh_bk | apply wh_rt | apply w_int | apply w_non | apply w_bl | apply w_str | apply w_tup | apply w_lst | apply w_dct0 | apply es_nil | apply es_cons | apply w_bin | apply w_neg | apply w_cmp | apply w_chn | apply w_and | apply w_or | apply w_not | apply w_ife | apply w_idx | apply w_slc | apply w_rev | apply w_call | apply w_bi | apply w_isi | apply w_mth | apply w_lc | apply o_no | apply o_so | apply ts_nil | apply ts_cons | apply i_val | apply i_rng1 | apply i_rng2 | apply i_enu | apply i_zip | apply o_addI | apply o_subI | apply b_lenT | apply b_lenR | apply b_abs | apply b_intI | apply b_tupT | apply b_listT | apply l_tup | apply l_rol | apply bo_bl) | ((with_reducible apply s_augA); rfl) | ((with_reducible apply s_augS); rfl) | ((with_reducible apply w_var); rfl) | ((with_reducible apply w_glb); rfl) | ((with_reducible apply w_calk); rfl) | ((fail_if_success (with_reducible show ∃ k, opC .NotIn _ _ _ = some k ∧ _)); (fail_if_success (with_reducible show ∃ k, opC .In _ _ _ = some k ∧ _)); refine ⟨_, rfl, ?_⟩)))
      refine i_loc B1.at_b (by rfl) ?_
      refine ⟨rcv_loc (by decide) hq, ?_⟩
      (repeat (first | ((with_reducible show Wp (evSs _ _ (List.set _ _ _) _) _); simp only [List.set_cons_succ, List.set_cons_zero]) | with_reducible (first | apply s_cons | apply th_nx | apply th_rt | apply th_bk | apply th_ct | apply s_nil | apply s_set | apply s_par2 | apply s_seti | apply s_ife | apply s_ret | apply s_retN | apply s_exp | apply s_brk | apply s_cnt | apply s_pss | apply s_loop | apply rt_rt | apply rt_nx | apply wh_nx | apply wh_ct | apply wh_bk | apply wh_rt | apply w_int | apply w_non | apply w_bl | apply w_str | apply w_tup | apply w_lst | apply w_dct0 | apply es_nil | apply es_cons | apply w_bin | apply w_neg | apply w_cmp | apply w_chn | apply w_and | apply w_or | apply w_not | apply w_ife | apply w_idx | apply w_slc | apply w_rev | apply w_call | apply w_bi | apply w_isi | apply w_mth | apply w_lc | apply o_no | apply o_so | apply ts_nil | apply ts_cons | apply i_val | apply i_rng1 | apply i_rng2 | apply i_enu | apply i_zip | apply o_addI | apply o_subI | apply b_lenT | apply b_lenR | apply b_abs | apply b_intI | apply b_tupT | apply b_listT | apply l_tup | apply l_rol | apply bo_bl) | ((with_reducible apply s_augA); rfl) | ((with_reducible apply s_augS); rfl) | ((with_reducible apply w_var); rfl) | ((with_reducible apply w_glb); rfl) | ((with_reducible apply w_calk); rfl) | ((fail_if_success (with_reducible show ∃ k, opC .NotIn _ _ _ = some k ∧ _)); (fail_if_success (with_reducible show ∃ k, opC .In _ _ _ = some k ∧ _)); refine ⟨_, rfl, ?_⟩)))
      refine m_pop hq ?_
      (repeat (first | ((with_reducible show Wp (evSs _ _ (List.set _ _ _) _) _); simp only [List.set_cons_succ, List.set_cons_zero]) | with_reducible (first | apply s_cons | apply th_nx | apply th_rt | apply th_bk | apply th_ct | apply s_nil | apply s_set | apply s_par2 | apply s_seti | apply s_ife | apply s_ret | apply s_retN | apply s_exp | apply s_brk | apply s_cnt | apply s_pss | apply s_loop | apply rt_rt | apply rt_nx | apply wh_nx | apply wh_ct | apply wh_bk | apply wh_rt | apply w_int | apply w_non | apply w_bl | apply w_str | apply w_tup | apply w_lst | apply w_dct0 | apply es_nil | apply es_cons | apply w_bin | apply w_neg | apply w_cmp | apply w_chn | apply w_and | apply w_or | apply w_not | apply w_ife | apply w_idx | apply w_slc | apply w_rev | apply w_call | apply w_bi | apply w_isi | apply w_mth | apply w_lc | apply o_no | apply o_so | apply ts_nil | apply ts_cons | apply i_val | apply i_rng1 | apply i_rng2 | apply i_enu | apply i_zip | apply o_addI | apply o_subI | apply b_lenT | apply b_lenR | apply b_abs | apply b_intI | apply b_tupT | apply b_listT | apply l_tup | apply l_rol | apply bo_bl) | ((with_reducible apply s_augA); rfl) | ((with_reducible apply s_augS); rfl) | ((with_reducible apply w_var); rfl) | ((with_reducible apply w_glb); rfl) | ((with_reducible apply w_calk); rfl) | ((fail_if_success (with_reducible show ∃ k, opC .NotIn _ _ _ = some k ∧ _)); (fail_if_success (with_reducible show ∃ k, opC .In _ _ _ = some k ∧ _)); refine ⟨_, rfl, ?_⟩)))
      refine o_pow (by decide) ?_
      (repeat (first | ((with_reducible show Wp (evSs _ _ (List.set _ _ _) _) _); simp only [List.set_cons_succ, List.set_cons_zero]) | with_reducible (first | apply s_cons | apply th_nx | apply th_rt | apply th_bk | apply th_ct | apply s_nil | apply s_set | apply s_par2 | apply s_seti | apply s_ife | apply s_ret | apply s_retN | apply s_exp | apply s_brk | apply s_cnt | apply s_pss | apply s_loop | apply rt_rt | apply rt_nx | apply wh_nx | apply wh_ct | apply wh_bk | apply wh_rt | apply w_int | apply w_non | apply w_bl | apply w_str | apply w_tup | apply w_lst | apply w_dct0 | apply es_nil | apply es_cons | apply w_bin | apply w_neg | apply w_cmp | apply w_chn | apply w_and | apply w_or | apply w_not | apply w_ife | apply w_idx | apply w_slc | apply w_rev | apply w_call | apply w_bi | apply w_isi | apply w_mth | apply w_lc | apply o_no | apply o_so | apply ts_nil | apply ts_cons | apply i_val | apply i_rng1 | apply i_rng2 | apply i_enu | apply i_zip | apply o_addI | apply o_subI | apply b_lenT | apply b_lenR | apply b_abs | apply b_intI | apply b_tupT | apply b_listT | apply l_tup | apply l_rol | apply bo_bl) | ((with_reducible apply s_augA); rfl) | ((with_reducible apply s_augS); rfl) | ((with_reducible apply w_var); rfl) | ((with_reducible apply w_glb); rfl) | ((with_reducible apply w_calk); rfl) | ((fail_if_success (with_reducible show ∃ k, opC .NotIn _ _ _ = some k ∧ _)); (fail_if_success (with_reducible show ∃ k, opC .In _ _ _ = some k ∧ _)); refine ⟨_, rfl, ?_⟩)))
      have fin : ∀ k', 0 ≤ k' → ∃ m', m' < (ds ++ [c]).length ∧ ∃ x cs k2 m2, [some (D.loc b), some (D.int j), some (D.int c), none] = [some (D.loc b), some (D.int j), x, none] ∧ BagI q b (((s1 ++ [C.lst []]).set q (.lst (ds.map D.int))).set b (.lst [.loc q, .int k', .int m])) cs k2 m2 ∧ cs.length = m' ∧ Kx [q, b] s (((s1 ++ [C.lst []]).set q (.lst (ds.map D.int))).set b (.lst [.loc q, .int k', .int m])) := fun k' h => ⟨ds.length, by simp, _, ds, k', m, rfl, put B2 h, rfl, ((K.push _).set inq _).set inb _⟩
      refine ⟨fun h => ?_, fun h => ?_⟩
      · (repeat (first | ((with_reducible show Wp (evSs _ _ (List.set _ _ _) _) _); simp only [List.set_cons_succ, List.set_cons_zero]) | with_reducible (first | apply s_cons | apply th_nx | apply th_rt | apply th_bk | apply th_ct | apply s_nil | apply s_set | apply s_par2 | apply s_seti | apply s_ife | apply s_ret | apply s_retN | apply s_exp | apply s_brk | apply s_cnt | apply s_pss | apply s_loop | apply rt_rt | apply rt_nx | apply wh_nx | apply wh_ct | apply wh_bk | apply wh_rt | apply w_int | apply w_non | apply w_bl | apply w_str | apply w_tup | apply w_lst | apply w_dct0 | apply es_nil | apply es_cons | apply w_bin | apply w_neg | apply w_cmp | apply w_chn | apply w_and | apply w_or | apply w_not | apply w_ife | apply w_idx | apply w_slc | apply w_rev | apply w_call | apply w_bi | apply w_isi | apply w_mth | apply w_lc | apply o_no | apply o_so | apply ts_nil | apply ts_cons | apply i_val | apply i_rng1 | apply i_rng2 | apply i_enu | apply i_zip | apply o_addI | apply o_subI | apply b_lenT | apply b_lenR | apply b_abs | apply b_intI | apply b_tupT | apply b_listT | apply l_tup | apply l_rol | apply bo_bl) | ((with_reducible apply s_augA); rfl) | ((with_reducible apply s_augS); rfl) | ((with_reducible apply w_var); rfl) | ((with_reducible apply w_glb); rfl) | ((with_reducible apply w_calk); rfl) | ((fail_if_success (with_reducible show ∃ k, opC .NotIn _ _ _ = some k ∧ _)); (fail_if_success (with_reducible show ∃ k, opC .In _ _ _ = some k ∧ _)); refine ⟨_, rfl, ?_⟩)))
        refine ⟨_, opSet_at (j := 1) B2.at_b (by rfl), ?_⟩
        (repeat (first | ((with_reducible show Wp (evSs _ _ (List.set _ _ _) _) _); simp only [List.set_cons_succ, List.set_cons_zero]) | with_reducible (first | apply s_cons | apply th_nx | apply th_rt | apply th_bk | apply th_ct | apply s_nil | apply s_set | apply s_par2 | apply s_seti | apply s_ife | apply s_ret | apply s_retN | apply s_exp | apply s_brk | apply s_cnt | apply s_pss | apply s_loop | apply rt_rt | apply rt_nx | apply wh_nx | apply wh_ct | apply wh_bk | apply wh_rt | apply w_int | apply w_non | apply w_bl | apply w_str | apply w_tup | apply w_lst | apply w_dct0 | apply es_nil | apply es_cons | apply w_bin | apply w_neg | apply w_cmp | apply w_chn | apply w_and | apply w_or | apply w_not | apply w_ife | apply w_idx | apply w_slc | apply w_rev | apply w_call | apply w_bi | apply w_isi | apply w_mth | apply w_lc | apply o_no | apply o_so | apply ts_nil | apply ts_cons | apply i_val | apply i_rng1 | apply i_rng2 | apply i_enu | apply i_zip | apply o_addI | apply o_subI | apply b_lenT | apply b_lenR | apply b_abs | apply b_intI | apply b_tupT | apply b_listT | apply l_tup | apply l_rol | apply bo_bl) | ((with_reducible apply s_augA); rfl) | ((with_reducible apply s_augS); rfl) | ((with_reducible apply w_var); rfl) | ((with_reducible apply w_glb); rfl) | ((with_reducible apply w_calk); rfl) | ((fail_if_success (with_reducible show ∃ k, opC .NotIn _ _ _ = some k ∧ _)); (fail_if_success (with_reducible show ∃ k, opC .In _ _ _ = some k ∧ _)); refine ⟨_, rfl, ?_⟩)))
        exact fin _ c0
      · (repeat (first | ((with_reducible show Wp (evSs _ _ (List.set _ _ _) _) _); simp only [List.set_cons_succ, List.set_cons_zero]) | with_reducible (first | apply s_cons | apply th_nx | apply th_rt | apply th_bk | apply th_ct | apply s_nil | apply s_set | apply s_par2 | apply s_seti | apply s_ife | apply s_ret | apply s_retN | apply s_exp | apply s_brk | apply s_cnt | apply s_pss | apply s_loop | apply rt_rt | apply rt_nx | apply wh_nx | apply wh_ct | apply wh_bk | apply wh_rt | apply w_int | apply w_non | apply w_bl | apply w_str | apply w_tup | apply w_lst | apply w_dct0 | apply es_nil | apply es_cons | apply w_bin | apply w_neg | apply w_cmp | apply w_chn | apply w_and | apply w_or | apply w_not | apply w_ife | apply w_idx | apply w_slc | apply w_rev | apply w_call | apply w_bi | apply w_isi | apply w_mth | apply w_lc | apply o_no | apply o_so | apply ts_nil | apply ts_cons | apply i_val | apply i_rng1 | apply i_rng2 | apply i_enu | apply i_zip | apply o_addI | apply o_subI | apply b_lenT | apply b_lenR | apply b_abs | apply b_intI | apply b_tupT | apply b_listT | apply l_tup | apply l_rol | apply bo_bl) | ((with_reducible apply s_augA); rfl) | ((with_reducible apply s_augS); rfl) | ((with_reducible apply w_var); rfl) | ((with_reducible apply w_glb); rfl) | ((with_reducible apply w_calk); rfl) | ((fail_if_success (with_reducible show ∃ k, opC .NotIn _ _ _ = some k ∧ _)); (fail_if_success (with_reducible show ∃ k, opC .In _ _ _ = some k ∧ _)); refine ⟨_, rfl, ?_⟩)))
        refine ⟨_, opSet_at (j := 1) B2.at_b (by rfl), ?_⟩
        (repeat (first | ((with_reducible show Wp (evSs _ _ (List.set _ _ _) _) _); simp only [List.set_cons_succ, List.set_cons_zero]) | with_reducible (first | apply s_cons | apply th_nx | apply th_rt | apply th_bk | apply th_ct | apply s_nil | apply s_set | apply s_par2 | apply s_seti | apply s_ife | apply s_ret | apply s_retN | apply s_exp | apply s_brk | apply s_cnt | apply s_pss | apply s_loop | apply rt_rt | apply rt_nx | apply wh_nx | apply wh_ct | apply wh_bk | apply wh_rt | apply w_int | apply w_non | apply w_bl | apply w_str | apply w_tup | apply w_lst | apply w_dct0 | apply es_nil | apply es_cons | apply w_bin | apply w_neg | apply w_cmp | apply w_chn | apply w_and | apply w_or | apply w_not | apply w_ife | apply w_idx | apply w_slc | apply w_rev | apply w_call | apply w_bi | apply w_isi | apply w_mth | apply w_lc | apply o_no | apply o_so | apply ts_nil | apply ts_cons | apply i_val | apply i_rng1 | apply i_rng2 | apply i_enu | apply i_zip | apply o_addI | apply o_subI | apply b_lenT | apply b_lenR | apply b_abs | apply b_intI | apply b_tupT | apply b_listT | apply l_tup | apply l_rol | apply bo_bl) | ((with_reducible apply s_augA); rfl) | ((with_reducible apply s_augS); rfl) | ((with_reducible apply w_var); rfl) | ((with_reducible apply w_glb); rfl) | ((with_reducible apply w_calk); rfl) | ((fail_if_success (with_reducible show ∃ k, opC .NotIn _ _ _ = some k ∧ _)); (fail_if_success (with_reducible show ∃ k, opC .In _ _ _ = some k ∧ _)); refine ⟨_, rfl, ?_⟩)))
        exact fin 0 (by decide)
    · exact T _ _ _ _ _ (push _ B) (K.push _)
  · (repeat (first | ((with_reducible show Wp (evSs _ _ (List.set _ _ _) _) _); simp only [List.set_cons_succ, List.set_cons_zero]) | with_reducible (first | apply s_cons | apply th_nx | apply th_rt | apply th_bk | apply th_ct | apply s_nil | apply s_set | apply s_par2 | apply s_seti | apply s_ife | apply s_ret | apply s_retN | apply s_exp | apply s_brk | apply s_cnt | apply s_pss | apply s_loop | apply rt_rt | apply rt_nx | apply wh_nx | apply wh_ct | apply wh_bk | apply wh_rt | apply w_int | apply w_non | apply w_bl | apply w_str | apply w_tup | apply w_lst | apply w_dct0 | apply es_nil | apply es_cons | apply w_bin | apply w_neg | apply w_cmp | apply w_chn | apply w_and | apply w_or | apply w_not | apply w_ife | apply w_idx | apply w_slc | apply w_rev | apply w_call | apply w_bi | apply w_isi | apply w_mth | apply w_lc | apply o_no | apply o_so | apply ts_nil | apply ts_cons | apply i_val | apply i_rng1 | apply i_rng2 | apply i_enu | apply i_zip | apply o_addI | apply o_subI | apply b_lenT | apply b_lenR | apply b_abs | apply b_intI | apply b_tupT | apply b_listT | apply l_tup | apply l_rol | apply bo_bl) | ((with_reducible apply s_augA); rfl) | ((with_reducible apply s_augS); rfl) | ((with_reducible apply w_var); rfl) | ((with_reducible apply w_glb); rfl) | ((with_reducible apply w_calk); rfl) | ((fail_if_success (with_reducible show ∃ k, opC .NotIn _ _ _ = some k ∧ _)); (fail_if_success (with_reducible show ∃ k, opC .In _ _ _ = some k ∧ _)); refine ⟨_, rfl, ?_⟩)))
    exact ⟨fun h => (nomatch h), fun _ => T _ _ _ _ _ B K⟩
theorem atI_in {xs : List D} {r : Int} (h0 : 0 ≤ r) (h1 : r < xs.length) : ∃ d, d ∈ xs ∧ atI xs r = some d := by
  obtain ⟨j, rfl⟩ := Int.eq_ofNat_of_zero_le h0
  have hj : j < xs.length := by omega
  exact ⟨xs[j], List.getElem_mem hj, atI_nat (List.getElem?_eq_getElem hj)⟩
/-- 0 bag, 1 some; the draw is f -/
def pk1 (f : Nat) : Ss :=
    (.cons (.ret (.idx (.var 1) (.call f (.cons (.var 0) (.cons (.bi .len (.cons (.var 1) .nil)) .nil)))))
    .nil)
theorem pick_ok {p : Pg} {f fd n q b l : Nat} {s : Sto} {xs : List D} (hf : p.fn[f]? = some ⟨2, 2, pk1 fd⟩) (hd : p.fn[fd]? = some ⟨2, 4, dw1⟩) (hW : p.W = 1000000000) (B : Bag q b s) (hl : s[l]? = some (.lst xs)) (l1 : l ≠ q) (l2 : l ≠ b) (hx : xs ≠ []) (hx2 : xs.length ≤ 100000) :
    Wp (run p (n + 2) f [.loc b, .loc l] s) fun d s' => d ∈ xs ∧ Bag q b s' ∧ Kx [q, b] s s' := by
  refine run_fn hf rfl (by decide) ?_
  unfold pk1
  show Wp (evSs _ _ [some (.loc b), some (.loc l)] s) _
  (repeat (first | ((with_reducible show Wp (evSs _ _ (List.set _ _ _) _) _); simp only [List.set_cons_succ, List.set_cons_zero]) | with_reducible (first | apply s_cons | apply th_nx | apply th_rt | apply th_bk | apply th_ct | apply s_nil | apply s_set | apply s_par2 | apply s_seti | apply s_ife | apply s_ret | apply s_retN | apply s_exp | apply s_brk | apply s_cnt | apply s_pss | apply s_loop | apply rt_rt | apply rt_nx | apply wh_nx | apply wh_ct | apply wh_bk | apply wh_rt | apply w_int | apply w_non | apply w_bl | apply w_str | apply w_tup | apply w_lst | apply w_dct0 | apply es_nil | apply es_cons | apply w_bin | apply w_neg | apply w_cmp | apply w_chn | apply w_and | apply w_or | apply w_not | apply w_ife | apply w_idx | apply w_slc | apply w_rev | apply w_call | apply w_bi | apply w_isi | apply w_mth | apply w_lc | apply o_no | apply o_so | apply ts_nil | apply ts_cons | apply i_val | apply i_rng1 | apply i_rng2 | apply i_enu | apply i_zip | apply o_addI | apply o_subI | apply b_lenT | apply b_lenR | apply b_abs | apply b_intI | apply b_tupT | apply b_listT | apply l_tup | apply l_rol | apply bo_bl) | ((with_reducible apply s_augA); rfl) | ((with_reducible apply s_augS); rfl) | ((with_reducible apply w_var); rfl) | ((with_reducible apply w_glb); rfl) | ((with_reducible apply w_calk); rfl) | ((fail_if_success (with_reducible show ∃ k, opC .NotIn _ _ _ = some k ∧ _)); (fail_if_success (with_reducible show ∃ k, opC .In _ _ _ = some k ∧ _)); refine ⟨_, rfl, ?_⟩)))
  refine b_lenL hl ?_
  (repeat (first | ((with_reducible show Wp (evSs _ _ (List.set _ _ _) _) _); simp only [List.set_cons_succ, List.set_cons_zero]) | with_reducible (first | apply s_cons | apply th_nx | apply th_rt | apply th_bk | apply th_ct | apply s_nil | apply s_set | apply s_par2 | apply s_seti | apply s_ife | apply s_ret | apply s_retN | apply s_exp | apply s_brk | apply s_cnt | apply s_pss | apply s_loop | apply rt_rt | apply rt_nx | apply wh_nx | apply wh_ct | apply wh_bk | apply wh_rt | apply w_int | apply w_non | apply w_bl | apply w_str | apply w_tup | apply w_lst | apply w_dct0 | apply es_nil | apply es_cons | apply w_bin | apply w_neg | apply w_cmp | apply w_chn | apply w_and | apply w_or | apply w_not | apply w_ife | apply w_idx | apply w_slc | apply w_rev | apply w_call | apply w_bi | apply w_isi | apply w_mth | apply w_lc | apply o_no | apply o_so | apply ts_nil | apply ts_cons | apply i_val | apply i_rng1 | apply i_rng2 | apply i_enu | apply i_zip | apply o_addI | apply o_subI | apply b_lenT | apply b_lenR | apply b_abs | apply b_intI | apply b_tupT | apply b_listT | apply l_tup | apply l_rol | apply bo_bl) | ((with_reducible apply s_augA); rfl) | ((with_reducible apply s_augS); rfl) | ((with_reducible apply w_var); rfl) | ((with_reducible apply w_glb); rfl) | ((with_reducible apply w_calk); rfl) | ((fail_if_success (with_reducible show ∃ k, opC .NotIn _ _ _ = some k ∧ _)); (fail_if_success (with_reducible show ∃ k, opC .In _ _ _ = some k ∧ _)); refine ⟨_, rfl, ?_⟩)))
  have pos : 0 < xs.length := List.length_pos_iff.mpr hx
  refine wp_mono (draw_ok hd hW B (by omega) (by have := log2_of (i := (xs.length : Int)) (k := 100) (by omega) (by decide); omega)) ?_
  rintro d s' ⟨r, rfl, r0, r1, B', K⟩
  obtain ⟨d, hd, e⟩ := atI_in r0 r1
  refine i_loc (K.get hl (by simp [l1, l2])) e ?_
  (repeat (first | ((with_reducible show Wp (evSs _ _ (List.set _ _ _) _) _); simp only [List.set_cons_succ, List.set_cons_zero]) | with_reducible (first | apply s_cons | apply th_nx | apply th_rt | apply th_bk | apply th_ct | apply s_nil | apply s_set | apply s_par2 | apply s_seti | apply s_ife | apply s_ret | apply s_retN | apply s_exp | apply s_brk | apply s_cnt | apply s_pss | apply s_loop | apply rt_rt | apply rt_nx | apply wh_nx | apply wh_ct | apply wh_bk | apply wh_rt | apply w_int | apply w_non | apply w_bl | apply w_str | apply w_tup | apply w_lst | apply w_dct0 | apply es_nil | apply es_cons | apply w_bin | apply w_neg | apply w_cmp | apply w_chn | apply w_and | apply w_or | apply w_not | apply w_ife | apply w_idx | apply w_slc | apply w_rev | apply w_call | apply w_bi | apply w_isi | apply w_mth | apply w_lc | apply o_no | apply o_so | apply ts_nil | apply ts_cons | apply i_val | apply i_rng1 | apply i_rng2 | apply i_enu | apply i_zip | apply o_addI | apply o_subI | apply b_lenT | apply b_lenR | apply b_abs | apply b_intI | apply b_tupT | apply b_listT | apply l_tup | apply l_rol | apply bo_bl) | ((with_reducible apply s_augA); rfl) | ((with_reducible apply s_augS); rfl) | ((with_reducible apply w_var); rfl) | ((with_reducible apply w_glb); rfl) | ((with_reducible apply w_calk); rfl) | ((fail_if_success (with_reducible show ∃ k, opC .NotIn _ _ _ = some k ∧ _)); (fail_if_success (with_reducible show ∃ k, opC .In _ _ _ = some k ∧ _)); refine ⟨_, rfl, ?_⟩)))
  exact ⟨hd, B', K⟩
/-- 0 script, 1 cells, 2 mixed, 3 cell -/
def bg1 : Ss :=
    (.cons (.set (.nm 1) (.lc (.bi .abs (.cons (.var 3) .nil)) (.nm 3) (.val (.slc (.var 0) .no (.so (.int 63)))) .nil [3]))
    (.cons (.set (.nm 2) (.bin .Add (.int 19595) (.bi .len (.cons (.var 1) .nil))))
    (.cons (.loop (.nm 3) (.val (.var 1)) (.cons (.set (.nm 2) (.bin .Mod (.bi .int (.cons (.bin .Add (.bin .Add (.bin .Mult (.var 2) (.int 48271)) (.bin .Mod (.bi .int (.cons (.var 3) .nil)) (.int 2147483629))) (.int 5)) .nil)) (.int 2147483647))) .nil))
    (.cons (.ret (.lst (.cons (.rev (.var 1)) (.cons (.int 0) (.cons (.var 2) .nil)))))
    .nil))))
theorem fm_abs {R : D → Option D → Prop} (hR : ∀ i r, R (.int i) r → ∃ j : Int, r = some (.int j) ∧ 0 ≤ j) : ∀ {ms : List Int} {ys : List D}, Fm R (ms.map D.int) ys → ∃ cs : List Int, ys = cs.map D.int ∧ (∀ c ∈ cs, 0 ≤ c) ∧ cs.length = ms.length
  | [], _, .nil => ⟨[], rfl, fun _ h => (nomatch h), rfl⟩
  | m :: ms, _, .keep r h => by
    obtain ⟨cs, rfl, h2, h3⟩ := fm_abs hR h
    obtain ⟨j, e, j0⟩ := hR _ _ r
    cases e
    exact ⟨j :: cs, rfl, fun c hc => by rcases List.mem_cons.mp hc with rfl | z; exact j0; exact h2 c z, by simp [h3]⟩
  | m :: ms, _, .skip r h => by
    obtain ⟨j, e, j0⟩ := hR _ _ r
    cases e
theorem bag_ok {p : Pg} {f n : Nat} {ns : List Int} (hf : p.fn[f]? = some ⟨1, 4, bg1⟩) (hn : ns.length ≤ 63) :
    Wp (run p (n + 1) f [.rol (ns.map D.int)] []) fun d s' => ∃ q b, d = .loc b ∧ Bag q b s' := by
  refine run_fn hf rfl (by decide) ?_
  unfold bg1
  show Wp (evSs _ _ [some (.rol (ns.map D.int)), none, none, none] []) _
  obtain ⟨ms, hm, hm2⟩ : ∃ ms : List Int, cutD (ns.map D.int) none (some 63) = ms.map D.int ∧ ms.length ≤ 63 := by
    refine ⟨(ns.drop (HT.sIx (ns.map D.int).length 0 none)).take (HT.sIx (ns.map D.int).length (ns.map D.int).length (some 63) - HT.sIx (ns.map D.int).length 0 none), ?_, ?_⟩
    · unfold cutD
      rw [List.map_take, List.map_drop]
    · rw [List.length_take, List.length_drop]
      omega
  (repeat (first | ((with_reducible show Wp (evSs _ _ (List.set _ _ _) _) _); simp only [List.set_cons_succ, List.set_cons_zero]) | with_reducible (first | apply s_cons | apply th_nx | apply th_rt | apply th_bk | apply th_ct | apply s_nil | apply s_set | apply s_par2 | apply s_seti | apply s_ife | apply s_ret | apply s_retN | apply s_exp | apply s_brk | apply s_cnt | apply s_pss | apply s_loop | apply rt_rt | apply rt_nx | apply wh_nx | apply wh_ct | apply wh_bk | apply wh_rt | apply w_int | apply w_non | apply w_bl | apply w_str | apply w_tup | apply w_lst | apply w_dct0 | apply es_nil | apply es_cons | apply w_bin | apply w_neg | apply w_cmp | apply w_chn | apply w_and | apply w_or | apply w_not | apply w_ife | apply w_idx | apply w_slc | apply w_rev | apply w_call | apply w_bi | apply w_isi | apply w_mth | apply w_lc | apply o_no | apply o_so | apply ts_nil | apply ts_cons | apply i_val | apply i_rng1 | apply i_rng2 | apply i_enu | apply i_zip | apply o_addI | apply o_subI | apply b_lenT | apply b_lenR | apply b_abs | apply b_intI | apply b_tupT | apply b_listT | apply l_tup | apply l_rol | apply bo_bl) | ((with_reducible apply s_augA); rfl) | ((with_reducible apply s_augS); rfl) | ((with_reducible apply w_var); rfl) | ((with_reducible apply w_glb); rfl) | ((with_reducible apply w_calk); rfl) | ((fail_if_success (with_reducible show ∃ k, opC .NotIn _ _ _ = some k ∧ _)); (fail_if_success (with_reducible show ∃ k, opC .In _ _ _ = some k ∧ _)); refine ⟨_, rfl, ?_⟩)))
  rw [hm]
  refine lc_kx (X := []) (fun x r => ∀ i, x = .int i → ∃ j : Int, r = some (.int j) ∧ 0 ≤ j) (fun _ => True) (fun _ _ _ _ => trivial) (by simp) trivial (by show (ms.map D.int).length ≤ _; rw [List.length_map, sizeLine_eq]; omega) ?_ ?_ ?_
  · rintro n ys e
    cases e
    exact ⟨by simp, rfl⟩
  · rintro x hx s' K lt -
    obtain ⟨m, hm, rfl⟩ := List.mem_map.mp hx
    refine ⟨_, rfl, ?_⟩
    (repeat (first | ((with_reducible show Wp (evSs _ _ (List.set _ _ _) _) _); simp only [List.set_cons_succ, List.set_cons_zero]) | with_reducible (first | apply s_cons | apply th_nx | apply th_rt | apply th_bk | apply th_ct | apply s_nil | apply s_set | apply s_par2 | apply s_seti | apply s_ife | apply s_ret | apply s_retN | apply s_exp | apply s_brk | apply s_cnt | apply s_pss | apply s_loop | apply rt_rt | apply rt_nx | apply wh_nx | apply wh_ct | apply wh_bk | apply wh_rt | apply w_int | apply w_non | apply w_bl | apply w_str | apply w_tup | apply w_lst | apply w_dct0 | apply es_nil | apply es_cons | apply w_bin | apply w_neg | apply w_cmp | apply w_chn | apply w_and | apply w_or | apply w_not | apply w_ife | apply w_idx | apply w_slc | apply w_rev | apply w_call | apply w_bi | apply w_isi | apply w_mth | apply w_lc | apply o_no | apply o_so | apply ts_nil | apply ts_cons | apply i_val | apply i_rng1 | apply i_rng2 | apply i_enu | apply i_zip | apply o_addI | apply o_subI | apply b_lenT | apply b_lenR | apply b_abs | apply b_intI | apply b_tupT | apply b_listT | apply l_tup | apply l_rol | apply bo_bl) | ((with_reducible apply s_augA); rfl) | ((with_reducible apply s_augS); rfl) | ((with_reducible apply w_var); rfl) | ((with_reducible apply w_glb); rfl) | ((with_reducible apply w_calk); rfl) | ((fail_if_success (with_reducible show ∃ k, opC .NotIn _ _ _ = some k ∧ _)); (fail_if_success (with_reducible show ∃ k, opC .In _ _ _ = some k ∧ _)); refine ⟨_, rfl, ?_⟩)))
    refine ⟨fun _ => ?_, fun h => nomatch h⟩
    (repeat (first | ((with_reducible show Wp (evSs _ _ (List.set _ _ _) _) _); simp only [List.set_cons_succ, List.set_cons_zero]) | with_reducible (first | apply s_cons | apply th_nx | apply th_rt | apply th_bk | apply th_ct | apply s_nil | apply s_set | apply s_par2 | apply s_seti | apply s_ife | apply s_ret | apply s_retN | apply s_exp | apply s_brk | apply s_cnt | apply s_pss | apply s_loop | apply rt_rt | apply rt_nx | apply wh_nx | apply wh_ct | apply wh_bk | apply wh_rt | apply w_int | apply w_non | apply w_bl | apply w_str | apply w_tup | apply w_lst | apply w_dct0 | apply es_nil | apply es_cons | apply w_bin | apply w_neg | apply w_cmp | apply w_chn | apply w_and | apply w_or | apply w_not | apply w_ife | apply w_idx | apply w_slc | apply w_rev | apply w_call | apply w_bi | apply w_isi | apply w_mth | apply w_lc | apply o_no | apply o_so | apply ts_nil | apply ts_cons | apply i_val | apply i_rng1 | apply i_rng2 | apply i_enu | apply i_zip | apply o_addI | apply o_subI | apply b_lenT | apply b_lenR | apply b_abs | apply b_intI | apply b_tupT | apply b_listT | apply l_tup | apply l_rol | apply bo_bl) | ((with_reducible apply s_augA); rfl) | ((with_reducible apply s_augS); rfl) | ((with_reducible apply w_var); rfl) | ((with_reducible apply w_glb); rfl) | ((with_reducible apply w_calk); rfl) | ((fail_if_success (with_reducible show ∃ k, opC .NotIn _ _ _ = some k ∧ _)); (fail_if_success (with_reducible show ∃ k, opC .In _ _ _ = some k ∧ _)); refine ⟨_, rfl, ?_⟩)))
    refine ⟨fun i e => ?_, trivial, .refl⟩
    cases e
    exact ⟨_, rfl, by split <;> omega⟩
  rintro ys s1 e1 fm - K lt
  obtain ⟨cs, rfl, pos, len⟩ := fm_abs (fun i r h => h i rfl) fm
  (repeat (first | ((with_reducible show Wp (evSs _ _ (List.set _ _ _) _) _); simp only [List.set_cons_succ, List.set_cons_zero]) | with_reducible (first | apply s_cons | apply th_nx | apply th_rt | apply th_bk | apply th_ct | apply s_nil | apply s_set | apply s_par2 | apply s_seti | apply s_ife | apply s_ret | apply s_retN | apply s_exp | apply s_brk | apply s_cnt | apply s_pss | apply s_loop | apply rt_rt | apply rt_nx | apply wh_nx | apply wh_ct | apply wh_bk | apply wh_rt | apply w_int | apply w_non | apply w_bl | apply w_str | apply w_tup | apply w_lst | apply w_dct0 | apply es_nil | apply es_cons | apply w_bin | apply w_neg | apply w_cmp | apply w_chn | apply w_and | apply w_or | apply w_not | apply w_ife | apply w_idx | apply w_slc | apply w_rev | apply w_call | apply w_bi | apply w_isi | apply w_mth | apply w_lc | apply o_no | apply o_so | apply ts_nil | apply ts_cons | apply i_val | apply i_rng1 | apply i_rng2 | apply i_enu | apply i_zip | apply o_addI | apply o_subI | apply b_lenT | apply b_lenR | apply b_abs | apply b_intI | apply b_tupT | apply b_listT | apply l_tup | apply l_rol | apply bo_bl) | ((with_reducible apply s_augA); rfl) | ((with_reducible apply s_augS); rfl) | ((with_reducible apply w_var); rfl) | ((with_reducible apply w_glb); rfl) | ((with_reducible apply w_calk); rfl) | ((fail_if_success (with_reducible show ∃ k, opC .NotIn _ _ _ = some k ∧ _)); (fail_if_success (with_reducible show ∃ k, opC .In _ _ _ = some k ∧ _)); refine ⟨_, rfl, ?_⟩)))
  refine b_lenL e1 ?_
  (repeat (first | ((with_reducible show Wp (evSs _ _ (List.set _ _ _) _) _); simp only [List.set_cons_succ, List.set_cons_zero]) | with_reducible (first | apply s_cons | apply th_nx | apply th_rt | apply th_bk | apply th_ct | apply s_nil | apply s_set | apply s_par2 | apply s_seti | apply s_ife | apply s_ret | apply s_retN | apply s_exp | apply s_brk | apply s_cnt | apply s_pss | apply s_loop | apply rt_rt | apply rt_nx | apply wh_nx | apply wh_ct | apply wh_bk | apply wh_rt | apply w_int | apply w_non | apply w_bl | apply w_str | apply w_tup | apply w_lst | apply w_dct0 | apply es_nil | apply es_cons | apply w_bin | apply w_neg | apply w_cmp | apply w_chn | apply w_and | apply w_or | apply w_not | apply w_ife | apply w_idx | apply w_slc | apply w_rev | apply w_call | apply w_bi | apply w_isi | apply w_mth | apply w_lc | apply o_no | apply o_so | apply ts_nil | apply ts_cons | apply i_val | apply i_rng1 | apply i_rng2 | apply i_enu | apply i_zip | apply o_addI | apply o_subI | apply b_lenT | apply b_lenR | apply b_abs | apply b_intI | apply b_tupT | apply b_listT | apply l_tup | apply l_rol | apply bo_bl) | ((with_reducible apply s_augA); rfl) | ((with_reducible apply s_augS); rfl) | ((with_reducible apply w_var); rfl) | ((with_reducible apply w_glb); rfl) | ((with_reducible apply w_calk); rfl) | ((fail_if_success (with_reducible show ∃ k, opC .NotIn _ _ _ = some k ∧ _)); (fail_if_success (with_reducible show ∃ k, opC .In _ _ _ = some k ∧ _)); refine ⟨_, rfl, ?_⟩)))
  refine src_loc e1 ?_
  refine fo_inv (fun xs e s' => ∃ (m : Int) (x : Option D), e = [some (.rol (ns.map D.int)), some (.loc (List.length ([] ++ [C.lst (ms.map D.int)]))), some (.int m), x] ∧ 0 ≤ m ∧ m < 2147483647 ∧ s' = s1 ∧ ∃ c2 : List Int, xs = c2.map D.int) ?_ ?_ ⟨_, _, rfl, ?_, ?_, rfl, cs, rfl⟩
  · rintro x xs e s' ⟨m, x', rfl, m0, m1, rfl, c2, hc⟩
    obtain ⟨c, c2, rfl⟩ : ∃ c c3, c2 = c :: c3 := by
      cases c2 with
      | nil => cases hc
      | cons c c3 => exact ⟨c, c3, rfl⟩
    cases hc
    refine ⟨fo_some e1, _, rfl, ?_⟩
    (repeat (first | ((with_reducible show Wp (evSs _ _ (List.set _ _ _) _) _); simp only [List.set_cons_succ, List.set_cons_zero]) | with_reducible (first | apply s_cons | apply th_nx | apply th_rt | apply th_bk | apply th_ct | apply s_nil | apply s_set | apply s_par2 | apply s_seti | apply s_ife | apply s_ret | apply s_retN | apply s_exp | apply s_brk | apply s_cnt | apply s_pss | apply s_loop | apply rt_rt | apply rt_nx | apply wh_nx | apply wh_ct | apply wh_bk | apply wh_rt | apply w_int | apply w_non | apply w_bl | apply w_str | apply w_tup | apply w_lst | apply w_dct0 | apply es_nil | apply es_cons | apply w_bin | apply w_neg | apply w_cmp | apply w_chn | apply w_and | apply w_or | apply w_not | apply w_ife | apply w_idx | apply w_slc | apply w_rev | apply w_call | apply w_bi | apply w_isi | apply w_mth | apply w_lc | apply o_no | apply o_so | apply ts_nil | apply ts_cons | apply i_val | apply i_rng1 | apply i_rng2 | apply i_enu | apply i_zip | apply o_addI | apply o_subI | apply b_lenT | apply b_lenR | apply b_abs | apply b_intI | apply b_tupT | apply b_listT | apply l_tup | apply l_rol | apply bo_bl) | ((with_reducible apply s_augA); rfl) | ((with_reducible apply s_augS); rfl) | ((with_reducible apply w_var); rfl) | ((with_reducible apply w_glb); rfl) | ((with_reducible apply w_calk); rfl) | ((fail_if_success (with_reducible show ∃ k, opC .NotIn _ _ _ = some k ∧ _)); (fail_if_success (with_reducible show ∃ k, opC .In _ _ _ = some k ∧ _)); refine ⟨_, rfl, ?_⟩)))
    refine o_mulI (by have := log2_of (i := m) (k := 100) (by omega) (by decide); have : (48271 : Int).natAbs.log2 < 100 := by decide
                      omega) ?_
    (repeat (first | ((with_reducible show Wp (evSs _ _ (List.set _ _ _) _) _); simp only [List.set_cons_succ, List.set_cons_zero]) | with_reducible (first | apply s_cons | apply th_nx | apply th_rt | apply th_bk | apply th_ct | apply s_nil | apply s_set | apply s_par2 | apply s_seti | apply s_ife | apply s_ret | apply s_retN | apply s_exp | apply s_brk | apply s_cnt | apply s_pss | apply s_loop | apply rt_rt | apply rt_nx | apply wh_nx | apply wh_ct | apply wh_bk | apply wh_rt | apply w_int | apply w_non | apply w_bl | apply w_str | apply w_tup | apply w_lst | apply w_dct0 | apply es_nil | apply es_cons | apply w_bin | apply w_neg | apply w_cmp | apply w_chn | apply w_and | apply w_or | apply w_not | apply w_ife | apply w_idx | apply w_slc | apply w_rev | apply w_call | apply w_bi | apply w_isi | apply w_mth | apply w_lc | apply o_no | apply o_so | apply ts_nil | apply ts_cons | apply i_val | apply i_rng1 | apply i_rng2 | apply i_enu | apply i_zip | apply o_addI | apply o_subI | apply b_lenT | apply b_lenR | apply b_abs | apply b_intI | apply b_tupT | apply b_listT | apply l_tup | apply l_rol | apply bo_bl) | ((with_reducible apply s_augA); rfl) | ((with_reducible apply s_augS); rfl) | ((with_reducible apply w_var); rfl) | ((with_reducible apply w_glb); rfl) | ((with_reducible apply w_calk); rfl) | ((fail_if_success (with_reducible show ∃ k, opC .NotIn _ _ _ = some k ∧ _)); (fail_if_success (with_reducible show ∃ k, opC .In _ _ _ = some k ∧ _)); refine ⟨_, rfl, ?_⟩)))
    refine o_mod (by decide) ?_
    (repeat (first | ((with_reducible show Wp (evSs _ _ (List.set _ _ _) _) _); simp only [List.set_cons_succ, List.set_cons_zero]) | with_reducible (first | apply s_cons | apply th_nx | apply th_rt | apply th_bk | apply th_ct | apply s_nil | apply s_set | apply s_par2 | apply s_seti | apply s_ife | apply s_ret | apply s_retN | apply s_exp | apply s_brk | apply s_cnt | apply s_pss | apply s_loop | apply rt_rt | apply rt_nx | apply wh_nx | apply wh_ct | apply wh_bk | apply wh_rt | apply w_int | apply w_non | apply w_bl | apply w_str | apply w_tup | apply w_lst | apply w_dct0 | apply es_nil | apply es_cons | apply w_bin | apply w_neg | apply w_cmp | apply w_chn | apply w_and | apply w_or | apply w_not | apply w_ife | apply w_idx | apply w_slc | apply w_rev | apply w_call | apply w_bi | apply w_isi | apply w_mth | apply w_lc | apply o_no | apply o_so | apply ts_nil | apply ts_cons | apply i_val | apply i_rng1 | apply i_rng2 | apply i_enu | apply i_zip | apply o_addI | apply o_subI | apply b_lenT | apply b_lenR | apply b_abs | apply b_intI | apply b_tupT | apply b_listT | apply l_tup | apply l_rol | apply bo_bl) | ((with_reducible apply s_augA); rfl) | ((with_reducible apply s_augS); rfl) | ((with_reducible apply w_var); rfl) | ((with_reducible apply w_glb); rfl) | ((with_reducible apply w_calk); rfl) | ((fail_if_success (with_reducible show ∃ k, opC .NotIn _ _ _ = some k ∧ _)); (fail_if_success (with_reducible show ∃ k, opC .In _ _ _ = some k ∧ _)); refine ⟨_, rfl, ?_⟩)))
    refine o_mod (by decide) ?_
    (repeat (first | ((with_reducible show Wp (evSs _ _ (List.set _ _ _) _) _); simp only [List.set_cons_succ, List.set_cons_zero]) | with_reducible (first | apply s_cons | apply th_nx | apply th_rt | apply th_bk | apply th_ct | apply s_nil | apply s_set | apply s_par2 | apply s_seti | apply s_ife | apply s_ret | apply s_retN | apply s_exp | apply s_brk | apply s_cnt | apply s_pss | apply s_loop | apply rt_rt | apply rt_nx | apply wh_nx | apply wh_ct | apply wh_bk | apply wh_rt | apply w_int | apply w_non | apply w_bl | apply w_str | apply w_tup | apply w_lst | apply w_dct0 | apply es_nil | apply es_cons | apply w_bin | apply w_neg | apply w_cmp | apply w_chn | apply w_and | apply w_or | apply w_not | apply w_ife | apply w_idx | apply w_slc | apply w_rev | apply w_call | apply w_bi | apply w_isi | apply w_mth | apply w_lc | apply o_no | apply o_so | apply ts_nil | apply ts_cons | apply i_val | apply i_rng1 | apply i_rng2 | apply i_enu | apply i_zip | apply o_addI | apply o_subI | apply b_lenT | apply b_lenR | apply b_abs | apply b_intI | apply b_tupT | apply b_listT | apply l_tup | apply l_rol | apply bo_bl) | ((with_reducible apply s_augA); rfl) | ((with_reducible apply s_augS); rfl) | ((with_reducible apply w_var); rfl) | ((with_reducible apply w_glb); rfl) | ((with_reducible apply w_calk); rfl) | ((fail_if_success (with_reducible show ∃ k, opC .NotIn _ _ _ = some k ∧ _)); (fail_if_success (with_reducible show ∃ k, opC .In _ _ _ = some k ∧ _)); refine ⟨_, rfl, ?_⟩)))
    exact ⟨_, _, rfl, Int.emod_nonneg _ (by decide), Int.emod_lt_of_pos _ (by decide), rfl, c2, rfl⟩
  · rintro e s' ⟨m, x', rfl, m0, m1, rfl, -⟩
    refine ⟨fo_some e1, ?_⟩
    (repeat (first | ((with_reducible show Wp (evSs _ _ (List.set _ _ _) _) _); simp only [List.set_cons_succ, List.set_cons_zero]) | with_reducible (first | apply s_cons | apply th_nx | apply th_rt | apply th_bk | apply th_ct | apply s_nil | apply s_set | apply s_par2 | apply s_seti | apply s_ife | apply s_ret | apply s_retN | apply s_exp | apply s_brk | apply s_cnt | apply s_pss | apply s_loop | apply rt_rt | apply rt_nx | apply wh_nx | apply wh_ct | apply wh_bk | apply wh_rt | apply w_int | apply w_non | apply w_bl | apply w_str | apply w_tup | apply w_lst | apply w_dct0 | apply es_nil | apply es_cons | apply w_bin | apply w_neg | apply w_cmp | apply w_chn | apply w_and | apply w_or | apply w_not | apply w_ife | apply w_idx | apply w_slc | apply w_rev | apply w_call | apply w_bi | apply w_isi | apply w_mth | apply w_lc | apply o_no | apply o_so | apply ts_nil | apply ts_cons | apply i_val | apply i_rng1 | apply i_rng2 | apply i_enu | apply i_zip | apply o_addI | apply o_subI | apply b_lenT | apply b_lenR | apply b_abs | apply b_intI | apply b_tupT | apply b_listT | apply l_tup | apply l_rol | apply bo_bl) | ((with_reducible apply s_augA); rfl) | ((with_reducible apply s_augS); rfl) | ((with_reducible apply w_var); rfl) | ((with_reducible apply w_glb); rfl) | ((with_reducible apply w_calk); rfl) | ((fail_if_success (with_reducible show ∃ k, opC .NotIn _ _ _ = some k ∧ _)); (fail_if_success (with_reducible show ∃ k, opC .In _ _ _ = some k ∧ _)); refine ⟨_, rfl, ?_⟩)))
    refine r_loc e1 ?_
    (repeat (first | ((with_reducible show Wp (evSs _ _ (List.set _ _ _) _) _); simp only [List.set_cons_succ, List.set_cons_zero]) | with_reducible (first | apply s_cons | apply th_nx | apply th_rt | apply th_bk | apply th_ct | apply s_nil | apply s_set | apply s_par2 | apply s_seti | apply s_ife | apply s_ret | apply s_retN | apply s_exp | apply s_brk | apply s_cnt | apply s_pss | apply s_loop | apply rt_rt | apply rt_nx | apply wh_nx | apply wh_ct | apply wh_bk | apply wh_rt | apply w_int | apply w_non | apply w_bl | apply w_str | apply w_tup | apply w_lst | apply w_dct0 | apply es_nil | apply es_cons | apply w_bin | apply w_neg | apply w_cmp | apply w_chn | apply w_and | apply w_or | apply w_not | apply w_ife | apply w_idx | apply w_slc | apply w_rev | apply w_call | apply w_bi | apply w_isi | apply w_mth | apply w_lc | apply o_no | apply o_so | apply ts_nil | apply ts_cons | apply i_val | apply i_rng1 | apply i_rng2 | apply i_enu | apply i_zip | apply o_addI | apply o_subI | apply b_lenT | apply b_lenR | apply b_abs | apply b_intI | apply b_tupT | apply b_listT | apply l_tup | apply l_rol | apply bo_bl) | ((with_reducible apply s_augA); rfl) | ((with_reducible apply s_augS); rfl) | ((with_reducible apply w_var); rfl) | ((with_reducible apply w_glb); rfl) | ((with_reducible apply w_calk); rfl) | ((fail_if_success (with_reducible show ∃ k, opC .NotIn _ _ _ = some k ∧ _)); (fail_if_success (with_reducible show ∃ k, opC .In _ _ _ = some k ∧ _)); refine ⟨_, rfl, ?_⟩)))
    refine ⟨_, _, rfl, cs.reverse, 0, m, ⟨push_old ?_, push_at, fun c hc => pos c (List.mem_reverse.mp hc), by rw [List.length_reverse]; omega, by decide, m0, m1⟩⟩
    rw [List.map_reverse]
    exact push_at
  · rw [List.length_map]; omega
  · rw [List.length_map]; omega
end Iv
set_option Elab.async false
set_option linter.all false
set_option maxRecDepth 100000
set_option maxHeartbeats 8000000
namespace K01
open PySem PySem.Spec PyProof.Rows L2 Iv
def top (i : Nat) : Stmt := PySem.Challenge.pw_cheapbymarks_k01_words_judged.main.body.getD i (.Pass ⟨0, 0, 0, 0⟩)
/-- is_integer: 0 value -/
def b0 : Ss :=
    (.cons (.ret (.and (.isi (.var 0) .int) (.not (.isi (.var 0) .bool))))
    .nil)
def r0 : FR := ⟨"is_integer", ["value"], ["value"], top 2, b0⟩
/-- word_error: 0 value, 1 i, 2 letter -/
def b1 : Ss :=
    (.cons (.ife (.or (.not (.isi (.var 0) .tuple)) (.cmp .Gt (.bi .len (.cons (.var 0) .nil)) (.glb 0))) (.cons (.ret (.str (Str.ofString "form"))) .nil) .nil)
    (.cons (.loop (.tp (.cons (.nm 1) (.cons (.nm 2) .nil))) (.enu (.var 0)) (.cons (.ife (.or (.not (.call 0 (.cons (.var 2) .nil))) (.not (.chn .LtE .LtE (.int 0) (.var 2) (.int 1)))) (.cons (.ret (.tup (.cons (.str (Str.ofString "letter")) (.cons (.var 1) .nil)))) .nil) .nil) .nil))
    (.cons (.ret .non)
    .nil)))
def r1 : FR := ⟨"word_error", ["value"], ["value", "i", "letter"], top 3, b1⟩
/-- end_of: 0 word -/
def b2 : Ss :=
    (.cons (.ret (.ife (.cmp .NotEq (.var 0) (.tup .nil)) (.idx (.var 0) (.neg (.int 1))) .non))
    .nil)
def r2 : FR := ⟨"end_of", ["word"], ["word"], top 4, b2⟩
/-- letters_counted: 0 word -/
def b3 : Ss :=
    (.cons (.ret (.tup (.cons (.bin .Sub (.bi .len (.cons (.var 0) .nil)) (.bi .sum (.cons (.var 0) .nil))) (.cons (.bi .sum (.cons (.var 0) .nil)) .nil))))
    .nil)
def r3 : FR := ⟨"letters_counted", ["word"], ["word"], top 5, b3⟩
/-- words_up_to: 0 length, 1 step, 2 found, 3 here, 4 longer, 5 word -/
def b4 : Ss :=
    (.cons (.par2 2 3 (.lst (.cons (.tup .nil) .nil)) (.lst (.cons (.tup .nil) .nil)))
    (.cons (.loop (.nm 1) (.rng1 (.var 0)) (.cons (.set (.nm 4) (.lst .nil)) (.cons (.loop (.nm 5) (.val (.var 3)) (.cons (.exp (.mth .extend (.var 4) (.cons (.lst (.cons (.bin .Add (.var 5) (.tup (.cons (.int 0) .nil))) (.cons (.bin .Add (.var 5) (.tup (.cons (.int 1) .nil))) .nil))) .nil))) .nil)) (.cons (.par2 2 3 (.bin .Add (.var 2) (.var 4)) (.var 4)) .nil))))
    (.cons (.ret (.bi .tuple (.cons (.var 2) .nil)))
    .nil)))
def r4 : FR := ⟨"words_up_to", ["length"], ["length", "step", "found", "here", "longer", "word"], top 6, b4⟩
/-- word_at: 0 place, 1 found, 2 left -/
def b5 : Ss :=
    (.cons (.par2 1 2 (.lst .nil) (.bin .Add (.var 0) (.int 1)))
    (.cons (.whl (.cmp .Gt (.var 2) (.int 1)) (.cons (.exp (.mth .append (.var 1) (.cons (.bin .Mod (.var 2) (.int 2)) .nil))) (.cons (.set (.nm 2) (.bin .FloorDiv (.var 2) (.int 2))) .nil)))
    (.cons (.ret (.bi .tuple (.cons (.rev (.var 1)) .nil)))
    .nil)))
def r5 : FR := ⟨"word_at", ["place"], ["place", "found", "left"], top 8, b5⟩
/-- place_of: 0 word, 1 found, 2 letter -/
def b6 : Ss :=
    (.cons (.set (.nm 1) (.int 1))
    (.cons (.loop (.nm 2) (.val (.var 0)) (.cons (.set (.nm 1) (.bin .Add (.bin .Mult (.int 2) (.var 1)) (.var 2))) .nil))
    (.cons (.ret (.bin .Sub (.var 1) (.int 1)))
    .nil)))
def r6 : FR := ⟨"place_of", ["word"], ["word", "found", "letter"], top 9, b6⟩
/-- _law_bag: 0 script, 1 cells, 2 mixed, 3 cell -/
def b7 : Ss :=
    (.cons (.set (.nm 1) (.lc (.bi .abs (.cons (.var 3) .nil)) (.nm 3) (.val (.slc (.var 0) .no (.so (.int 63)))) .nil [3]))
    (.cons (.set (.nm 2) (.bin .Add (.int 19595) (.bi .len (.cons (.var 1) .nil))))
    (.cons (.loop (.nm 3) (.val (.var 1)) (.cons (.set (.nm 2) (.bin .Mod (.bi .int (.cons (.bin .Add (.bin .Add (.bin .Mult (.var 2) (.int 48271)) (.bin .Mod (.bi .int (.cons (.var 3) .nil)) (.int 2147483629))) (.int 5)) .nil)) (.int 2147483647))) .nil))
    (.cons (.ret (.lst (.cons (.rev (.var 1)) (.cons (.int 0) (.cons (.var 2) .nil)))))
    .nil))))
def r7 : FR := ⟨"_law_bag", ["script"], ["script", "cells", "mixed", "cell"], top 11, b7⟩
/-- _law_draw: 0 bag, 1 below, 2 cell, 3 found -/
def b8 : Ss :=
    (.cons (.whl (.and (.cmp .Eq (.idx (.var 0) (.int 1)) (.int 0)) (.cmp .NotEq (.idx (.var 0) (.int 0)) (.lst .nil))) (.cons (.set (.nm 2) (.mth .pop (.idx (.var 0) (.int 0)) .nil)) (.cons (.seti (.var 0) (.int 1) (.ife (.cmp .Gt (.var 2) (.bin .Pow (.int 10) (.int 9))) (.var 2) (.int 0))) .nil)))
    (.cons (.ife (.cmp .Gt (.idx (.var 0) (.int 1)) (.int 0)) (.cons (.set (.nm 3) (.bin .Mod (.bi .int (.cons (.idx (.var 0) (.int 1)) .nil)) (.var 1))) (.cons (.seti (.var 0) (.int 1) (.bin .FloorDiv (.idx (.var 0) (.int 1)) (.var 1))) (.cons (.ret (.var 3)) .nil))) .nil)
    (.cons (.seti (.var 0) (.int 2) (.bin .Mod (.bi .int (.cons (.bin .Add (.bin .Mult (.idx (.var 0) (.int 2)) (.int 48271)) (.int 13)) .nil)) (.int 2147483647)))
    (.cons (.ret (.bin .Mod (.bi .int (.cons (.bin .FloorDiv (.bin .Mod (.bi .int (.cons (.bin .Mult (.idx (.var 0) (.int 2)) (.idx (.var 0) (.int 2))) .nil)) (.int 2147483629)) (.int 7)) .nil)) (.var 1)))
    .nil))))
def r8 : FR := ⟨"_law_draw", ["bag", "below"], ["bag", "below", "cell", "found"], top 12, b8⟩
/-- _law_pick: 0 bag, 1 some -/
def b9 : Ss :=
    (.cons (.ret (.idx (.var 1) (.call 8 (.cons (.var 0) (.cons (.bi .len (.cons (.var 1) .nil)) .nil)))))
    .nil)
def r9 : FR := ⟨"_law_pick", ["bag", "some"], ["bag", "some"], top 13, b9⟩
/-- _law_is_whole: 0 value -/
def b10 : Ss :=
    (.cons (.ret (.and (.isi (.var 0) .int) (.not (.isi (.var 0) .bool))))
    .nil)
def r10 : FR := ⟨"_law_is_whole", ["value"], ["value"], top 14, b10⟩
/-- _law_odd: 0 bag, 1 some -/
def b11 : Ss :=
    (.cons (.set (.nm 1) (.lst (.cons .non (.cons (.bl true) (.cons (.bl false) (.cons (.str (Str.ofString "")) (.cons (.str (Str.ofString "0")) (.cons (.str (Str.ofString "way")) (.cons (.tup .nil) (.cons (.lst .nil) (.cons .dct0 (.cons (.tup (.cons (.int 0) .nil)) (.cons (.lst (.cons (.int 0) (.cons (.int 0) .nil))) (.cons (.int 41) (.cons (.neg (.int 1)) (.cons (.bin .Pow (.int 10) (.int 59)) (.cons (.tup (.cons .non (.cons (.int 0) .nil))) (.cons (.tup (.cons (.tup (.cons (.int 0) .nil)) (.cons (.int 1) .nil))) .nil))))))))))))))))))
    (.cons (.ret (.call 9 (.cons (.var 0) (.cons (.var 1) .nil))))
    .nil))
def r11 : FR := ⟨"_law_odd", ["bag"], ["bag", "some"], top 15, b11⟩
/-- _law_with: 0 row, 1 place, 2 item -/
def b12 : Ss :=
    (.cons (.ret (.bin .Add (.bin .Add (.slc (.var 0) .no (.so (.var 1))) (.tup (.cons (.var 2) .nil))) (.slc (.var 0) (.so (.bin .Add (.var 1) (.int 1))) .no)))
    .nil)
def r12 : FR := ⟨"_law_with", ["row", "place", "item"], ["row", "place", "item"], top 16, b12⟩
/-- _law_word: 0 bag, 1 most, 2 letter -/
def b13 : Ss :=
    (.cons (.ret (.bi .tuple (.cons (.lc (.call 8 (.cons (.var 0) (.cons (.int 2) .nil))) (.nm 2) (.rng1 (.call 8 (.cons (.var 0) (.cons (.bin .Add (.var 1) (.int 1)) .nil)))) .nil [2]) .nil)))
    .nil)
def r13 : FR := ⟨"_law_word", ["bag", "most"], ["bag", "most", "letter"], top 17, b13⟩
/-- _law_due: 0 value, 1 bad, 2 i, 3 letter -/
def b14 : Ss :=
    (.cons (.ife (.or (.not (.isi (.var 0) .tuple)) (.cmp .Gt (.bi .len (.cons (.var 0) .nil)) (.int 300))) (.cons (.ret (.str (Str.ofString "form"))) .nil) .nil)
    (.cons (.set (.nm 1) (.lc (.var 2) (.tp (.cons (.nm 2) (.cons (.nm 3) .nil))) (.enu (.var 0)) (.cons (.or (.not (.call 10 (.cons (.var 3) .nil))) (.cmp .NotIn (.var 3) (.tup (.cons (.int 0) (.cons (.int 1) .nil))))) .nil) [2, 3]))
    (.cons (.ret (.ife (.cmp .NotEq (.var 1) (.lst .nil)) (.tup (.cons (.str (Str.ofString "letter")) (.cons (.idx (.var 1) (.int 0)) .nil))) .non))
    .nil)))
def r14 : FR := ⟨"_law_due", ["value"], ["value", "bad", "i", "letter"], top 18, b14⟩
/-- _law_digits: 0 place, 1 found, 2 left -/
def b15 : Ss :=
    (.cons (.par2 1 2 (.lst .nil) (.bin .Add (.var 0) (.int 1)))
    (.cons (.whl (.cmp .Gt (.var 2) (.int 1)) (.cons (.exp (.mth .append (.var 1) (.cons (.bin .Mod (.bi .int (.cons (.var 2) .nil)) (.int 2)) .nil))) (.cons (.set (.nm 2) (.bin .FloorDiv (.var 2) (.int 2))) .nil)))
    (.cons (.ret (.bi .tuple (.cons (.rev (.var 1)) .nil)))
    .nil)))
def r15 : FR := ⟨"_law_digits", ["place"], ["place", "found", "left"], top 19, b15⟩
/-- _law_place: 0 word, 1 found, 2 letter -/
def b16 : Ss :=
    (.cons (.set (.nm 1) (.int 1))
    (.cons (.loop (.nm 2) (.val (.var 0)) (.cons (.set (.nm 1) (.bin .Add (.bin .Mult (.int 2) (.var 1)) (.var 2))) .nil))
    (.cons (.ret (.bin .Sub (.var 1) (.int 1)))
    .nil)))
def r16 : FR := ⟨"_law_place", ["word"], ["word", "found", "letter"], top 20, b16⟩
/-- _law_are_places_right: 0 bag, 1 word, 2 place, 3 many, 4 letter, 5 own, 6 due -/
def b17 : Ss :=
    (.cons (.set (.nm 1) (.call 13 (.cons (.var 0) (.cons (.call 9 (.cons (.var 0) (.cons (.lst (.cons (.int 3) (.cons (.int 9) (.cons (.int 100) (.cons (.int 300) .nil))))) .nil))) .nil))))
    (.cons (.set (.nm 2) (.call 16 (.cons (.var 1) .nil)))
    (.cons (.set (.nm 3) (.int 1))
    (.cons (.loop (.nm 4) (.val (.var 1)) (.cons (.set (.nm 3) (.bin .Mult (.int 2) (.var 3))) .nil))
    (.cons (.ife (.or (.cmp .NotEq (.bi .repr (.cons (.lst (.cons (.call 6 (.cons (.var 1) .nil)) (.cons (.calk 1 .nil (.cons (.var 1) .nil)) .nil))) .nil)) (.bi .repr (.cons (.lst (.cons (.var 2) (.cons (.var 2) .nil))) .nil))) (.not (.chn .LtE .LtE (.bin .Sub (.var 3) (.int 1)) (.var 2) (.bin .Sub (.bin .Mult (.int 2) (.var 3)) (.int 2))))) (.cons (.ret (.bl false)) .nil) .nil)
    (.cons (.set (.nm 2) (.call 8 (.cons (.var 0) (.cons (.call 9 (.cons (.var 0) (.cons (.lst (.cons (.int 9) (.cons (.int 600) (.cons (.bin .Pow (.int 10) (.int 9)) (.cons (.bin .Add (.bin .Pow (.int 10) (.int 30)) (.int 1)) .nil))))) .nil))) .nil))))
    (.cons (.loop (.nm 5) (.val (.tup (.cons (.var 2) (.cons (.ife (.cmp .Eq (.call 8 (.cons (.var 0) (.cons (.int 4) .nil))) (.int 0)) (.bin .Pow (.int 10) (.int 30)) (.int 0)) .nil)))) (.cons (.set (.nm 6) (.call 15 (.cons (.var 5) .nil))) (.cons (.ife (.cmp .NotEq (.bi .repr (.cons (.lst (.cons (.call 5 (.cons (.var 5) .nil)) (.cons (.calk 0 .nil (.cons (.var 5) .nil)) (.cons (.call 6 (.cons (.var 6) .nil)) .nil)))) .nil)) (.bi .repr (.cons (.lst (.cons (.var 6) (.cons (.var 6) (.cons (.var 5) .nil)))) .nil))) (.cons (.ret (.bl false)) .nil) .nil) .nil)))
    (.cons (.ret (.bl true))
    .nil))))))))
def r17 : FR := ⟨"_law_are_places_right", ["bag"], ["bag", "word", "place", "many", "letter", "own", "due"], top 21, b17⟩
/-- law: 0 script, 1 bag, 2 turn, 3 length, 4 due, 5 word, 6 end, 7 ones, 8 values, 9 again, 10 long, 11 value, 12 some, 13 bent, 14 i, 15 j, 16 stays, 17 place -/
def b18 : Ss :=
    (.cons (.set (.nm 1) (.call 7 (.cons (.var 0) .nil)))
    (.cons (.loop (.nm 2) (.rng1 (.int 3)) (.cons (.set (.nm 5) (.call 13 (.cons (.var 1) (.cons (.call 9 (.cons (.var 1) (.cons (.lst (.cons (.int 2) (.cons (.int 5) (.cons (.int 30) .nil)))) .nil))) .nil)))) (.cons (.set (.nm 6) (.ife (.cmp .NotEq (.var 5) (.tup .nil)) (.idx (.var 5) (.neg (.int 1))) .non)) (.cons (.set (.nm 7) (.bi .sum (.cons (.var 5) .nil))) (.cons (.ife (.cmp .NotEq (.bi .repr (.cons (.lst (.cons (.call 2 (.cons (.var 5) .nil)) (.cons (.calk 5 .nil (.cons (.var 5) .nil)) .nil))) .nil)) (.bi .repr (.cons (.lst (.cons (.var 6) (.cons (.var 6) .nil))) .nil))) (.cons (.ret (.bl false)) .nil) .nil) (.cons (.ife (.cmp .NotEq (.bi .repr (.cons (.lst (.cons (.call 3 (.cons (.var 5) .nil)) (.cons (.calk 4 .nil (.cons (.var 5) .nil)) .nil))) .nil)) (.bi .repr (.cons (.bin .Mult (.lst (.cons (.tup (.cons (.bin .Sub (.bi .len (.cons (.var 5) .nil)) (.var 7)) (.cons (.var 7) .nil))) .nil)) (.int 2)) .nil))) (.cons (.ret (.bl false)) .nil) .nil) (.cons (.set (.nm 8) (.lst (.cons (.var 5) (.cons (.bi .list (.cons (.var 5) .nil)) (.cons (.bin .Add (.var 5) (.tup (.cons (.int 2) .nil))) (.cons .non (.cons (.call 11 (.cons (.var 1) .nil)) (.cons (.lst (.cons (.var 5) .nil)) (.cons (.tup (.cons (.var 5) .nil)) (.cons (.str (Str.ofString "01")) (.cons (.bi .dict (.cons (.lst (.cons (.tup (.cons (.int 0) (.cons (.int 1) .nil))) .nil)) .nil)) (.cons (.bin .Add (.var 5) (.tup (.cons (.bl true) .nil))) .nil)))))))))))) (.cons (.loop (.nm 9) (.rng1 (.ife (.cmp .NotEq (.var 5) (.tup .nil)) (.int 5) (.int 0))) (.cons (.par2 14 15 (.call 8 (.cons (.var 1) (.cons (.bi .len (.cons (.var 5) .nil)) .nil))) (.call 8 (.cons (.var 1) (.cons (.bi .len (.cons (.var 5) .nil)) .nil)))) (.cons (.set (.nm 12) (.lst (.cons (.int 2) (.cons (.neg (.int 1)) (.cons (.bl true) (.cons (.bl false) (.cons .non (.cons (.str (Str.ofString "1")) (.cons (.tup (.cons (.int 1) .nil)) (.cons (.bin .Pow (.int 10) (.int 40)) (.cons (.bin .Sub (.int 1) (.idx (.var 5) (.var 14))) .nil))))))))))) (.cons (.set (.nm 13) (.call 12 (.cons (.var 5) (.cons (.var 14) (.cons (.call 9 (.cons (.var 1) (.cons (.var 12) .nil))) .nil))))) (.cons (.exp (.mth .extend (.var 8) (.cons (.lst (.cons (.var 13) (.cons (.call 12 (.cons (.var 13) (.cons (.var 15) (.cons (.call 9 (.cons (.var 1) (.cons (.var 12) .nil))) .nil)))) (.cons (.bi .list (.cons (.var 13) .nil)) .nil)))) .nil))) .nil))))) (.cons (.set (.nm 10) (.bin .Add (.var 5) (.bin .Mult (.tup (.cons (.int 0) .nil)) (.bin .Sub (.int 300) (.bi .len (.cons (.var 5) .nil)))))) (.cons (.exp (.mth .extend (.var 8) (.cons (.lst (.cons (.var 10) (.cons (.bin .Add (.var 10) (.tup (.cons (.int 0) .nil))) (.cons (.bin .Add (.var 10) (.tup (.cons .non .nil))) (.cons (.call 12 (.cons (.var 10) (.cons (.int 299) (.cons (.bl true) .nil)))) (.cons (.call 12 (.cons (.var 10) (.cons (.int 298) (.cons (.int 2) .nil)))) .nil)))))) .nil))) (.cons (.loop (.nm 11) (.val (.var 8)) (.cons (.par2 4 16 (.call 14 (.cons (.var 11) .nil)) (.bi .repr (.cons (.var 11) .nil))) (.cons (.ife (.or (.cmp .NotEq (.bi .repr (.cons (.lst (.cons (.call 1 (.cons (.var 11) .nil)) (.cons (.calk 3 .nil (.cons (.var 11) .nil)) .nil))) .nil)) (.bi .repr (.cons (.lst (.cons (.var 4) (.cons (.var 4) .nil))) .nil))) (.cmp .NotEq (.bi .repr (.cons (.var 11) .nil)) (.var 16))) (.cons (.ret (.bl false)) .nil) .nil) .nil))) (.cons (.ife (.not (.call 17 (.cons (.var 1) .nil))) (.cons (.ret (.bl false)) .nil) .nil) .nil))))))))))))
    (.cons (.set (.nm 3) (.call 8 (.cons (.var 1) (.cons (.int 9) .nil))))
    (.cons (.set (.nm 4) (.bi .tuple (.cons (.lc (.call 15 (.cons (.var 17) .nil)) (.nm 17) (.rng1 (.bin .Add (.bin .Mult (.int 2) (.call 16 (.cons (.bin .Mult (.tup (.cons (.int 0) .nil)) (.var 3)) .nil))) (.int 1))) .nil [17]) .nil)))
    (.cons (.ret (.cmp .Eq (.bi .repr (.cons (.lst (.cons (.call 4 (.cons (.var 3) .nil)) (.cons (.calk 2 .nil (.cons (.var 3) .nil)) .nil))) .nil)) (.bi .repr (.cons (.lst (.cons (.var 4) (.cons (.var 4) .nil))) .nil))))
    .nil)))))
def r18 : FR := ⟨"law", ["script"], ["script", "bag", "turn", "length", "due", "word", "end", "ones", "values", "again", "long", "value", "some", "bent", "i", "j", "stays", "place"], top 22, b18⟩
def pr : Pr := { fs := [r0, r1, r2, r3, r4, r5, r6, r7, r8, r9, r10, r11, r12, r13, r14, r15, r16, r17, r18], gl := ["MAX_WORD"], bn := ["isinstance", "int", "bool", "enumerate", "tuple", "len", "sum", "range", "abs", "repr", "list", "dict"], kw := [(5, 0, ["place"], [0]), (6, 0, ["word"], [0]), (4, 0, ["length"], [0]), (1, 0, ["value"], [0]), (3, 0, ["word"], [0]), (2, 0, ["word"], [0])], G := fun j => match j with | 0 => some (.int 300) | _ => none, W := 1000000000 }
theorem ok0 : pr.ok1 r0 = true := by decide +kernel
theorem ok1 : pr.ok1 r1 = true := by decide +kernel
theorem ok2 : pr.ok1 r2 = true := by decide +kernel
theorem ok3 : pr.ok1 r3 = true := by decide +kernel
theorem ok4 : pr.ok1 r4 = true := by decide +kernel
theorem ok5 : pr.ok1 r5 = true := by decide +kernel
theorem ok6 : pr.ok1 r6 = true := by decide +kernel
theorem ok7 : pr.ok1 r7 = true := by decide +kernel
theorem ok8 : pr.ok1 r8 = true := by decide +kernel
theorem ok9 : pr.ok1 r9 = true := by decide +kernel
theorem ok10 : pr.ok1 r10 = true := by decide +kernel
theorem ok11 : pr.ok1 r11 = true := by decide +kernel
theorem ok12 : pr.ok1 r12 = true := by decide +kernel
theorem ok13 : pr.ok1 r13 = true := by decide +kernel
theorem ok14 : pr.ok1 r14 = true := by decide +kernel
theorem ok15 : pr.ok1 r15 = true := by decide +kernel
theorem ok16 : pr.ok1 r16 = true := by decide +kernel
theorem ok17 : pr.ok1 r17 = true := by decide +kernel
theorem ok18 : pr.ok1 r18 = true := by decide +kernel
theorem all_mk {K : PySem.W.Frag} {h : Heap} {mg : Str → Option Value} {fa : Addr} (X : K.In h) (G : h.Ns mainGlobals mg) (hfa : mg "law" = some (.ref fa))
    {f0 : Addr} {oc0 kV0 dc0 pm0 cd0 ct0 : Value} {od0 an0 : Option Addr} {sl0 : Array (Option Value)}
    (a0 : PySem.W.nsIn K mainGlobals "is_integer" = some (some (.ref f0))) (l0 : K.lookup f0 = some ⟨oc0, od0, .func (PySem.W.fnOf "is_integer" "is_integer" (defArgs (top 2)) (defBody (top 2)) (defScope (top 2)) .none kV0 dc0 pm0 an0 cd0 ct0), sl0⟩) (c0 : PySem.W.codeIn K cd0 "is_integer" = true) (k0 : PySem.W.keepIn K (.ref f0) = true)
    {f1 : Addr} {oc1 kV1 dc1 pm1 cd1 ct1 : Value} {od1 an1 : Option Addr} {sl1 : Array (Option Value)}
    (a1 : PySem.W.nsIn K mainGlobals "word_error" = some (some (.ref f1))) (l1 : K.lookup f1 = some ⟨oc1, od1, .func (PySem.W.fnOf "word_error" "word_error" (defArgs (top 3)) (defBody (top 3)) (defScope (top 3)) .none kV1 dc1 pm1 an1 cd1 ct1), sl1⟩) (c1 : PySem.W.codeIn K cd1 "word_error" = true) (k1 : PySem.W.keepIn K (.ref f1) = true)
    {f2 : Addr} {oc2 kV2 dc2 pm2 cd2 ct2 : Value} {od2 an2 : Option Addr} {sl2 : Array (Option Value)}
    (a2 : PySem.W.nsIn K mainGlobals "end_of" = some (some (.ref f2))) (l2 : K.lookup f2 = some ⟨oc2, od2, .func (PySem.W.fnOf "end_of" "end_of" (defArgs (top 4)) (defBody (top 4)) (defScope (top 4)) .none kV2 dc2 pm2 an2 cd2 ct2), sl2⟩) (c2 : PySem.W.codeIn K cd2 "end_of" = true) (k2 : PySem.W.keepIn K (.ref f2) = true)
    {f3 : Addr} {oc3 kV3 dc3 pm3 cd3 ct3 : Value} {od3 an3 : Option Addr} {sl3 : Array (Option Value)}
    (a3 : PySem.W.nsIn K mainGlobals "letters_counted" = some (some (.ref f3))) (l3 : K.lookup f3 = some ⟨oc3, od3, .func (PySem.W.fnOf "letters_counted" "letters_counted" (defArgs (top 5)) (defBody (top 5)) (defScope (top 5)) .none kV3 dc3 pm3 an3 cd3 ct3), sl3⟩) (c3 : PySem.W.codeIn K cd3 "letters_counted" = true) (k3 : PySem.W.keepIn K (.ref f3) = true)
    {f4 : Addr} {oc4 kV4 dc4 pm4 cd4 ct4 : Value} {od4 an4 : Option Addr} {sl4 : Array (Option Value)}
    (a4 : PySem.W.nsIn K mainGlobals "words_up_to" = some (some (.ref f4))) (l4 : K.lookup f4 = some ⟨oc4, od4, .func (PySem.W.fnOf "words_up_to" "words_up_to" (defArgs (top 6)) (defBody (top 6)) (defScope (top 6)) .none kV4 dc4 pm4 an4 cd4 ct4), sl4⟩) (c4 : PySem.W.codeIn K cd4 "words_up_to" = true) (k4 : PySem.W.keepIn K (.ref f4) = true)
    {f5 : Addr} {oc5 kV5 dc5 pm5 cd5 ct5 : Value} {od5 an5 : Option Addr} {sl5 : Array (Option Value)}
    (a5 : PySem.W.nsIn K mainGlobals "word_at" = some (some (.ref f5))) (l5 : K.lookup f5 = some ⟨oc5, od5, .func (PySem.W.fnOf "word_at" "word_at" (defArgs (top 8)) (defBody (top 8)) (defScope (top 8)) .none kV5 dc5 pm5 an5 cd5 ct5), sl5⟩) (c5 : PySem.W.codeIn K cd5 "word_at" = true) (k5 : PySem.W.keepIn K (.ref f5) = true)
    {f6 : Addr} {oc6 kV6 dc6 pm6 cd6 ct6 : Value} {od6 an6 : Option Addr} {sl6 : Array (Option Value)}
    (a6 : PySem.W.nsIn K mainGlobals "place_of" = some (some (.ref f6))) (l6 : K.lookup f6 = some ⟨oc6, od6, .func (PySem.W.fnOf "place_of" "place_of" (defArgs (top 9)) (defBody (top 9)) (defScope (top 9)) .none kV6 dc6 pm6 an6 cd6 ct6), sl6⟩) (c6 : PySem.W.codeIn K cd6 "place_of" = true) (k6 : PySem.W.keepIn K (.ref f6) = true)
    {f7 : Addr} {oc7 kV7 dc7 pm7 cd7 ct7 : Value} {od7 an7 : Option Addr} {sl7 : Array (Option Value)}
    (a7 : PySem.W.nsIn K mainGlobals "_law_bag" = some (some (.ref f7))) (l7 : K.lookup f7 = some ⟨oc7, od7, .func (PySem.W.fnOf "_law_bag" "_law_bag" (defArgs (top 11)) (defBody (top 11)) (defScope (top 11)) .none kV7 dc7 pm7 an7 cd7 ct7), sl7⟩) (c7 : PySem.W.codeIn K cd7 "_law_bag" = true) (k7 : PySem.W.keepIn K (.ref f7) = true)
    {f8 : Addr} {oc8 kV8 dc8 pm8 cd8 ct8 : Value} {od8 an8 : Option Addr} {sl8 : Array (Option Value)}
    (a8 : PySem.W.nsIn K mainGlobals "_law_draw" = some (some (.ref f8))) (l8 : K.lookup f8 = some ⟨oc8, od8, .func (PySem.W.fnOf "_law_draw" "_law_draw" (defArgs (top 12)) (defBody (top 12)) (defScope (top 12)) .none kV8 dc8 pm8 an8 cd8 ct8), sl8⟩) (c8 : PySem.W.codeIn K cd8 "_law_draw" = true) (k8 : PySem.W.keepIn K (.ref f8) = true)
    {f9 : Addr} {oc9 kV9 dc9 pm9 cd9 ct9 : Value} {od9 an9 : Option Addr} {sl9 : Array (Option Value)}
    (a9 : PySem.W.nsIn K mainGlobals "_law_pick" = some (some (.ref f9))) (l9 : K.lookup f9 = some ⟨oc9, od9, .func (PySem.W.fnOf "_law_pick" "_law_pick" (defArgs (top 13)) (defBody (top 13)) (defScope (top 13)) .none kV9 dc9 pm9 an9 cd9 ct9), sl9⟩) (c9 : PySem.W.codeIn K cd9 "_law_pick" = true) (k9 : PySem.W.keepIn K (.ref f9) = true)
    {f10 : Addr} {oc10 kV10 dc10 pm10 cd10 ct10 : Value} {od10 an10 : Option Addr} {sl10 : Array (Option Value)}
    (a10 : PySem.W.nsIn K mainGlobals "_law_is_whole" = some (some (.ref f10))) (l10 : K.lookup f10 = some ⟨oc10, od10, .func (PySem.W.fnOf "_law_is_whole" "_law_is_whole" (defArgs (top 14)) (defBody (top 14)) (defScope (top 14)) .none kV10 dc10 pm10 an10 cd10 ct10), sl10⟩) (c10 : PySem.W.codeIn K cd10 "_law_is_whole" = true) (k10 : PySem.W.keepIn K (.ref f10) = true)
    {f11 : Addr} {oc11 kV11 dc11 pm11 cd11 ct11 : Value} {od11 an11 : Option Addr} {sl11 : Array (Option Value)}
    (a11 : PySem.W.nsIn K mainGlobals "_law_odd" = some (some (.ref f11))) (l11 : K.lookup f11 = some ⟨oc11, od11, .func (PySem.W.fnOf "_law_odd" "_law_odd" (defArgs (top 15)) (defBody (top 15)) (defScope (top 15)) .none kV11 dc11 pm11 an11 cd11 ct11), sl11⟩) (c11 : PySem.W.codeIn K cd11 "_law_odd" = true) (k11 : PySem.W.keepIn K (.ref f11) = true)
    {f12 : Addr} {oc12 kV12 dc12 pm12 cd12 ct12 : Value} {od12 an12 : Option Addr} {sl12 : Array (Option Value)}
    (a12 : PySem.W.nsIn K mainGlobals "_law_with" = some (some (.ref f12))) (l12 : K.lookup f12 = some ⟨oc12, od12, .func (PySem.W.fnOf "_law_with" "_law_with" (defArgs (top 16)) (defBody (top 16)) (defScope (top 16)) .none kV12 dc12 pm12 an12 cd12 ct12), sl12⟩) (c12 : PySem.W.codeIn K cd12 "_law_with" = true) (k12 : PySem.W.keepIn K (.ref f12) = true)
    {f13 : Addr} {oc13 kV13 dc13 pm13 cd13 ct13 : Value} {od13 an13 : Option Addr} {sl13 : Array (Option Value)}
    (a13 : PySem.W.nsIn K mainGlobals "_law_word" = some (some (.ref f13))) (l13 : K.lookup f13 = some ⟨oc13, od13, .func (PySem.W.fnOf "_law_word" "_law_word" (defArgs (top 17)) (defBody (top 17)) (defScope (top 17)) .none kV13 dc13 pm13 an13 cd13 ct13), sl13⟩) (c13 : PySem.W.codeIn K cd13 "_law_word" = true) (k13 : PySem.W.keepIn K (.ref f13) = true)
    {f14 : Addr} {oc14 kV14 dc14 pm14 cd14 ct14 : Value} {od14 an14 : Option Addr} {sl14 : Array (Option Value)}
    (a14 : PySem.W.nsIn K mainGlobals "_law_due" = some (some (.ref f14))) (l14 : K.lookup f14 = some ⟨oc14, od14, .func (PySem.W.fnOf "_law_due" "_law_due" (defArgs (top 18)) (defBody (top 18)) (defScope (top 18)) .none kV14 dc14 pm14 an14 cd14 ct14), sl14⟩) (c14 : PySem.W.codeIn K cd14 "_law_due" = true) (k14 : PySem.W.keepIn K (.ref f14) = true)
    {f15 : Addr} {oc15 kV15 dc15 pm15 cd15 ct15 : Value} {od15 an15 : Option Addr} {sl15 : Array (Option Value)}
    (a15 : PySem.W.nsIn K mainGlobals "_law_digits" = some (some (.ref f15))) (l15 : K.lookup f15 = some ⟨oc15, od15, .func (PySem.W.fnOf "_law_digits" "_law_digits" (defArgs (top 19)) (defBody (top 19)) (defScope (top 19)) .none kV15 dc15 pm15 an15 cd15 ct15), sl15⟩) (c15 : PySem.W.codeIn K cd15 "_law_digits" = true) (k15 : PySem.W.keepIn K (.ref f15) = true)
    {f16 : Addr} {oc16 kV16 dc16 pm16 cd16 ct16 : Value} {od16 an16 : Option Addr} {sl16 : Array (Option Value)}
    (a16 : PySem.W.nsIn K mainGlobals "_law_place" = some (some (.ref f16))) (l16 : K.lookup f16 = some ⟨oc16, od16, .func (PySem.W.fnOf "_law_place" "_law_place" (defArgs (top 20)) (defBody (top 20)) (defScope (top 20)) .none kV16 dc16 pm16 an16 cd16 ct16), sl16⟩) (c16 : PySem.W.codeIn K cd16 "_law_place" = true) (k16 : PySem.W.keepIn K (.ref f16) = true)
    {f17 : Addr} {oc17 kV17 dc17 pm17 cd17 ct17 : Value} {od17 an17 : Option Addr} {sl17 : Array (Option Value)}
    (a17 : PySem.W.nsIn K mainGlobals "_law_are_places_right" = some (some (.ref f17))) (l17 : K.lookup f17 = some ⟨oc17, od17, .func (PySem.W.fnOf "_law_are_places_right" "_law_are_places_right" (defArgs (top 21)) (defBody (top 21)) (defScope (top 21)) .none kV17 dc17 pm17 an17 cd17 ct17), sl17⟩) (c17 : PySem.W.codeIn K cd17 "_law_are_places_right" = true) (k17 : PySem.W.keepIn K (.ref f17) = true)
    {f18 : Addr} {oc18 kV18 dc18 pm18 cd18 ct18 : Value} {od18 an18 : Option Addr} {sl18 : Array (Option Value)}
    (a18 : PySem.W.nsIn K mainGlobals "law" = some (some (.ref f18))) (l18 : K.lookup f18 = some ⟨oc18, od18, .func (PySem.W.fnOf "law" "law" (defArgs (top 22)) (defBody (top 22)) (defScope (top 22)) .none kV18 dc18 pm18 an18 cd18 ct18), sl18⟩) (c18 : PySem.W.codeIn K cd18 "law" = true) (k18 : PySem.W.keepIn K (.ref f18) = true)
    (z0 : PySem.W.nsIn K mainGlobals "isinstance" = some none)
    (z1 : PySem.W.nsIn K mainGlobals "int" = some none)
    (z2 : PySem.W.nsIn K mainGlobals "bool" = some none)
    (z3 : PySem.W.nsIn K mainGlobals "enumerate" = some none)
    (z4 : PySem.W.nsIn K mainGlobals "tuple" = some none)
    (z5 : PySem.W.nsIn K mainGlobals "len" = some none)
    (z6 : PySem.W.nsIn K mainGlobals "sum" = some none)
    (z7 : PySem.W.nsIn K mainGlobals "range" = some none)
    (z8 : PySem.W.nsIn K mainGlobals "abs" = some none)
    (z9 : PySem.W.nsIn K mainGlobals "repr" = some none)
    (z10 : PySem.W.nsIn K mainGlobals "list" = some none)
    (z11 : PySem.W.nsIn K mainGlobals "dict" = some none)
    {t0 : Tok} (glo0 : PySem.W.nsIn K mainGlobals "MAX_WORD" = some (some (.int 300 t0)))
    : ∃ (adr : Nat → Addr) (fd : Nat → FuncData), adr 18 = fa ∧ (∀ (s : Shared) (u : Value), BindsTo s (fd 18) ⟨[u], []⟩ [("script", u)]) ∧ PF pr K mg adr fd := by
  have e := hfa.symm.trans (PySem.W.mg_of X G a18)
  obtain rfl : f18 = fa := by cases e; rfl
  have F0 := fun_mk (st := top 2) l0 c0 k0
  have F1 := fun_mk (st := top 3) l1 c1 k1
  have F2 := fun_mk (st := top 4) l2 c2 k2
  have F3 := fun_mk (st := top 5) l3 c3 k3
  have F4 := fun_mk (st := top 6) l4 c4 k4
  have F5 := fun_mk (st := top 8) l5 c5 k5
  have F6 := fun_mk (st := top 9) l6 c6 k6
  have F7 := fun_mk (st := top 11) l7 c7 k7
  have F8 := fun_mk (st := top 12) l8 c8 k8
  have F9 := fun_mk (st := top 13) l9 c9 k9
  have F10 := fun_mk (st := top 14) l10 c10 k10
  have F11 := fun_mk (st := top 15) l11 c11 k11
  have F12 := fun_mk (st := top 16) l12 c12 k12
  have F13 := fun_mk (st := top 17) l13 c13 k13
  have F14 := fun_mk (st := top 18) l14 c14 k14
  have F15 := fun_mk (st := top 19) l15 c15 k15
  have F16 := fun_mk (st := top 20) l16 c16 k16
  have F17 := fun_mk (st := top 21) l17 c17 k17
  have F18 := fun_mk (st := top 22) l18 c18 k18
  refine ⟨fun j => match j with | 0 => f0 | 1 => f1 | 2 => f2 | 3 => f3 | 4 => f4 | 5 => f5 | 6 => f6 | 7 => f7 | 8 => f8 | 9 => f9 | 10 => f10 | 11 => f11 | 12 => f12 | 13 => f13 | 14 => f14 | 15 => f15 | 16 => f16 | 17 => f17 | 18 => f18 | _ => f0, fun j => match j with | 0 => PySem.W.fnOf "is_integer" "is_integer" (defArgs (top 2)) (defBody (top 2)) (defScope (top 2)) .none kV0 dc0 pm0 an0 cd0 ct0 | 1 => PySem.W.fnOf "word_error" "word_error" (defArgs (top 3)) (defBody (top 3)) (defScope (top 3)) .none kV1 dc1 pm1 an1 cd1 ct1 | 2 => PySem.W.fnOf "end_of" "end_of" (defArgs (top 4)) (defBody (top 4)) (defScope (top 4)) .none kV2 dc2 pm2 an2 cd2 ct2 | 3 => PySem.W.fnOf "letters_counted" "letters_counted" (defArgs (top 5)) (defBody (top 5)) (defScope (top 5)) .none kV3 dc3 pm3 an3 cd3 ct3 | 4 => PySem.W.fnOf "words_up_to" "words_up_to" (defArgs (top 6)) (defBody (top 6)) (defScope (top 6)) .none kV4 dc4 pm4 an4 cd4 ct4 | 5 => PySem.W.fnOf "word_at" "word_at" (defArgs (top 8)) (defBody (top 8)) (defScope (top 8)) .none kV5 dc5 pm5 an5 cd5 ct5 | 6 => PySem.W.fnOf "place_of" "place_of" (defArgs (top 9)) (defBody (top 9)) (defScope (top 9)) .none kV6 dc6 pm6 an6 cd6 ct6 | 7 => PySem.W.fnOf "_law_bag" "_law_bag" (defArgs (top 11)) (defBody (top 11)) (defScope (top 11)) .none kV7 dc7 pm7 an7 cd7 ct7 | 8 => PySem.W.fnOf "_law_draw" "_law_draw" (defArgs (top 12)) (defBody (top 12)) (defScope (top 12)) .none kV8 dc8 pm8 an8 cd8 ct8 | 9 => PySem.W.fnOf "_law_pick" "_law_pick" (defArgs (top 13)) (defBody (top 13)) (defScope (top 13)) .none kV9 dc9 pm9 an9 cd9 ct9 | 10 => PySem.W.fnOf "_law_is_whole" "_law_is_whole" (defArgs (top 14)) (defBody (top 14)) (defScope (top 14)) .none kV10 dc10 pm10 an10 cd10 ct10 | 11 => PySem.W.fnOf "_law_odd" "_law_odd" (defArgs (top 15)) (defBody (top 15)) (defScope (top 15)) .none kV11 dc11 pm11 an11 cd11 ct11 | 12 => PySem.W.fnOf "_law_with" "_law_with" (defArgs (top 16)) (defBody (top 16)) (defScope (top 16)) .none kV12 dc12 pm12 an12 cd12 ct12 | 13 => PySem.W.fnOf "_law_word" "_law_word" (defArgs (top 17)) (defBody (top 17)) (defScope (top 17)) .none kV13 dc13 pm13 an13 cd13 ct13 | 14 => PySem.W.fnOf "_law_due" "_law_due" (defArgs (top 18)) (defBody (top 18)) (defScope (top 18)) .none kV14 dc14 pm14 an14 cd14 ct14 | 15 => PySem.W.fnOf "_law_digits" "_law_digits" (defArgs (top 19)) (defBody (top 19)) (defScope (top 19)) .none kV15 dc15 pm15 an15 cd15 ct15 | 16 => PySem.W.fnOf "_law_place" "_law_place" (defArgs (top 20)) (defBody (top 20)) (defScope (top 20)) .none kV16 dc16 pm16 an16 cd16 ct16 | 17 => PySem.W.fnOf "_law_are_places_right" "_law_are_places_right" (defArgs (top 21)) (defBody (top 21)) (defScope (top 21)) .none kV17 dc17 pm17 an17 cd17 ct17 | 18 => PySem.W.fnOf "law" "law" (defArgs (top 22)) (defBody (top 22)) (defScope (top 22)) .none kV18 dc18 pm18 an18 cd18 ct18 | _ => PySem.W.fnOf "is_integer" "is_integer" (defArgs (top 2)) (defBody (top 2)) (defScope (top 2)) .none kV0 dc0 pm0 an0 cd0 ct0, rfl, fun s u => .of_eq rfl, ?_, ?_, ?_⟩
  · intro j r hj
    match j, hj with
    | 0, hj =>
      cases hj
      refine ⟨ok0, PySem.W.mg_of X G a0, F0, F0.binds (ps := ["value"]) fun _ _ _ _ _ _ us hl => match us, hl with | [_], _ => rfl, ?_⟩
      intro q v hq hv
      match q, hq with
      | 0, hq => cases hq; exact absurd hv (by decide)
      | 1, hq => cases hq; exact absurd hv (by decide)
      | 2, hq => cases hq; exact absurd hv (by decide)
      | 3, hq => cases hq; exact absurd hv (by decide)
      | 4, hq => cases hq; exact absurd hv (by decide)
      | 5, hq => cases hq; exact absurd hv (by decide)
      | q + 6, hq => exact absurd hq (by simp [pr])
    | 1, hj =>
      cases hj
      refine ⟨ok1, PySem.W.mg_of X G a1, F1, F1.binds (ps := ["value"]) fun _ _ _ _ _ _ us hl => match us, hl with | [_], _ => rfl, ?_⟩
      intro q v hq hv
      match q, hq with
      | 0, hq => cases hq; exact absurd hv (by decide)
      | 1, hq => cases hq; exact absurd hv (by decide)
      | 2, hq => cases hq; exact absurd hv (by decide)
      | 3, hq => cases hq; exact fun s us ws _ h1 h2 => match us, ws, h1, h2 with | [], [_], _, _ => .of_eq rfl
      | 4, hq => cases hq; exact absurd hv (by decide)
      | 5, hq => cases hq; exact absurd hv (by decide)
      | q + 6, hq => exact absurd hq (by simp [pr])
    | 2, hj =>
      cases hj
      refine ⟨ok2, PySem.W.mg_of X G a2, F2, F2.binds (ps := ["word"]) fun _ _ _ _ _ _ us hl => match us, hl with | [_], _ => rfl, ?_⟩
      intro q v hq hv
      match q, hq with
      | 0, hq => cases hq; exact absurd hv (by decide)
      | 1, hq => cases hq; exact absurd hv (by decide)
      | 2, hq => cases hq; exact absurd hv (by decide)
      | 3, hq => cases hq; exact absurd hv (by decide)
      | 4, hq => cases hq; exact absurd hv (by decide)
      | 5, hq => cases hq; exact fun s us ws _ h1 h2 => match us, ws, h1, h2 with | [], [_], _, _ => .of_eq rfl
      | q + 6, hq => exact absurd hq (by simp [pr])
    | 3, hj =>
      cases hj
      refine ⟨ok3, PySem.W.mg_of X G a3, F3, F3.binds (ps := ["word"]) fun _ _ _ _ _ _ us hl => match us, hl with | [_], _ => rfl, ?_⟩
      intro q v hq hv
      match q, hq with
      | 0, hq => cases hq; exact absurd hv (by decide)
      | 1, hq => cases hq; exact absurd hv (by decide)
      | 2, hq => cases hq; exact absurd hv (by decide)
      | 3, hq => cases hq; exact absurd hv (by decide)
      | 4, hq => cases hq; exact fun s us ws _ h1 h2 => match us, ws, h1, h2 with | [], [_], _, _ => .of_eq rfl
      | 5, hq => cases hq; exact absurd hv (by decide)
      | q + 6, hq => exact absurd hq (by simp [pr])
    | 4, hj =>
      cases hj
      refine ⟨ok4, PySem.W.mg_of X G a4, F4, F4.binds (ps := ["length"]) fun _ _ _ _ _ _ us hl => match us, hl with | [_], _ => rfl, ?_⟩
      intro q v hq hv
      match q, hq with
      | 0, hq => cases hq; exact absurd hv (by decide)
      | 1, hq => cases hq; exact absurd hv (by decide)
      | 2, hq => cases hq; exact fun s us ws _ h1 h2 => match us, ws, h1, h2 with | [], [_], _, _ => .of_eq rfl
      | 3, hq => cases hq; exact absurd hv (by decide)
      | 4, hq => cases hq; exact absurd hv (by decide)
      | 5, hq => cases hq; exact absurd hv (by decide)
      | q + 6, hq => exact absurd hq (by simp [pr])
    | 5, hj =>
      cases hj
      refine ⟨ok5, PySem.W.mg_of X G a5, F5, F5.binds (ps := ["place"]) fun _ _ _ _ _ _ us hl => match us, hl with | [_], _ => rfl, ?_⟩
      intro q v hq hv
      match q, hq with
      | 0, hq => cases hq; exact fun s us ws _ h1 h2 => match us, ws, h1, h2 with | [], [_], _, _ => .of_eq rfl
      | 1, hq => cases hq; exact absurd hv (by decide)
      | 2, hq => cases hq; exact absurd hv (by decide)
      | 3, hq => cases hq; exact absurd hv (by decide)
      | 4, hq => cases hq; exact absurd hv (by decide)
      | 5, hq => cases hq; exact absurd hv (by decide)
      | q + 6, hq => exact absurd hq (by simp [pr])
    | 6, hj =>
      cases hj
      refine ⟨ok6, PySem.W.mg_of X G a6, F6, F6.binds (ps := ["word"]) fun _ _ _ _ _ _ us hl => match us, hl with | [_], _ => rfl, ?_⟩
      intro q v hq hv
      match q, hq with
      | 0, hq => cases hq; exact absurd hv (by decide)
      | 1, hq => cases hq; exact fun s us ws _ h1 h2 => match us, ws, h1, h2 with | [], [_], _, _ => .of_eq rfl
      | 2, hq => cases hq; exact absurd hv (by decide)
      | 3, hq => cases hq; exact absurd hv (by decide)
      | 4, hq => cases hq; exact absurd hv (by decide)
      | 5, hq => cases hq; exact absurd hv (by decide)
      | q + 6, hq => exact absurd hq (by simp [pr])
    | 7, hj =>
      cases hj
      refine ⟨ok7, PySem.W.mg_of X G a7, F7, F7.binds (ps := ["script"]) fun _ _ _ _ _ _ us hl => match us, hl with | [_], _ => rfl, ?_⟩
      intro q v hq hv
      match q, hq with
      | 0, hq => cases hq; exact absurd hv (by decide)
      | 1, hq => cases hq; exact absurd hv (by decide)
      | 2, hq => cases hq; exact absurd hv (by decide)
      | 3, hq => cases hq; exact absurd hv (by decide)
      | 4, hq => cases hq; exact absurd hv (by decide)
      | 5, hq => cases hq; exact absurd hv (by decide)
      | q + 6, hq => exact absurd hq (by simp [pr])
    | 8, hj =>
      cases hj
      refine ⟨ok8, PySem.W.mg_of X G a8, F8, F8.binds (ps := ["bag", "below"]) fun _ _ _ _ _ _ us hl => match us, hl with | [_, _], _ => rfl, ?_⟩
      intro q v hq hv
      match q, hq with
      | 0, hq => cases hq; exact absurd hv (by decide)
      | 1, hq => cases hq; exact absurd hv (by decide)
      | 2, hq => cases hq; exact absurd hv (by decide)
      | 3, hq => cases hq; exact absurd hv (by decide)
      | 4, hq => cases hq; exact absurd hv (by decide)
      | 5, hq => cases hq; exact absurd hv (by decide)
      | q + 6, hq => exact absurd hq (by simp [pr])
    | 9, hj =>
      cases hj
      refine ⟨ok9, PySem.W.mg_of X G a9, F9, F9.binds (ps := ["bag", "some"]) fun _ _ _ _ _ _ us hl => match us, hl with | [_, _], _ => rfl, ?_⟩
      intro q v hq hv
      match q, hq with
      | 0, hq => cases hq; exact absurd hv (by decide)
      | 1, hq => cases hq; exact absurd hv (by decide)
      | 2, hq => cases hq; exact absurd hv (by decide)
      | 3, hq => cases hq; exact absurd hv (by decide)
      | 4, hq => cases hq; exact absurd hv (by decide)
      | 5, hq => cases hq; exact absurd hv (by decide)
      | q + 6, hq => exact absurd hq (by simp [pr])
    | 10, hj =>
      cases hj
      refine ⟨ok10, PySem.W.mg_of X G a10, F10, F10.binds (ps := ["value"]) fun _ _ _ _ _ _ us hl => match us, hl with | [_], _ => rfl, ?_⟩
      intro q v hq hv
      match q, hq with
      | 0, hq => cases hq; exact absurd hv (by decide)
      | 1, hq => cases hq; exact absurd hv (by decide)
      | 2, hq => cases hq; exact absurd hv (by decide)
      | 3, hq => cases hq; exact absurd hv (by decide)
      | 4, hq => cases hq; exact absurd hv (by decide)
      | 5, hq => cases hq; exact absurd hv (by decide)
      | q + 6, hq => exact absurd hq (by simp [pr])
    | 11, hj =>
      cases hj
      refine ⟨ok11, PySem.W.mg_of X G a11, F11, F11.binds (ps := ["bag"]) fun _ _ _ _ _ _ us hl => match us, hl with | [_], _ => rfl, ?_⟩
      intro q v hq hv
      match q, hq with
      | 0, hq => cases hq; exact absurd hv (by decide)
      | 1, hq => cases hq; exact absurd hv (by decide)
      | 2, hq => cases hq; exact absurd hv (by decide)
      | 3, hq => cases hq; exact absurd hv (by decide)
      | 4, hq => cases hq; exact absurd hv (by decide)
      | 5, hq => cases hq; exact absurd hv (by decide)
      | q + 6, hq => exact absurd hq (by simp [pr])
    | 12, hj =>
      cases hj
      refine ⟨ok12, PySem.W.mg_of X G a12, F12, F12.binds (ps := ["row", "place", "item"]) fun _ _ _ _ _ _ us hl => match us, hl with | [_, _, _], _ => rfl, ?_⟩
      intro q v hq hv
      match q, hq with
      | 0, hq => cases hq; exact absurd hv (by decide)
      | 1, hq => cases hq; exact absurd hv (by decide)
      | 2, hq => cases hq; exact absurd hv (by decide)
      | 3, hq => cases hq; exact absurd hv (by decide)
      | 4, hq => cases hq; exact absurd hv (by decide)
      | 5, hq => cases hq; exact absurd hv (by decide)
      | q + 6, hq => exact absurd hq (by simp [pr])
    | 13, hj =>
      cases hj
      refine ⟨ok13, PySem.W.mg_of X G a13, F13, F13.binds (ps := ["bag", "most"]) fun _ _ _ _ _ _ us hl => match us, hl with | [_, _], _ => rfl, ?_⟩
      intro q v hq hv
      match q, hq with
      | 0, hq => cases hq; exact absurd hv (by decide)
      | 1, hq => cases hq; exact absurd hv (by decide)
      | 2, hq => cases hq; exact absurd hv (by decide)
      | 3, hq => cases hq; exact absurd hv (by decide)
      | 4, hq => cases hq; exact absurd hv (by decide)
      | 5, hq => cases hq; exact absurd hv (by decide)
      | q + 6, hq => exact absurd hq (by simp [pr])
    | 14, hj =>
      cases hj
      refine ⟨ok14, PySem.W.mg_of X G a14, F14, F14.binds (ps := ["value"]) fun _ _ _ _ _ _ us hl => match us, hl with | [_], _ => rfl, ?_⟩
      intro q v hq hv
      match q, hq with
      | 0, hq => cases hq; exact absurd hv (by decide)
      | 1, hq => cases hq; exact absurd hv (by decide)
      | 2, hq => cases hq; exact absurd hv (by decide)
      | 3, hq => cases hq; exact absurd hv (by decide)
      | 4, hq => cases hq; exact absurd hv (by decide)
      | 5, hq => cases hq; exact absurd hv (by decide)
      | q + 6, hq => exact absurd hq (by simp [pr])
    | 15, hj =>
      cases hj
      refine ⟨ok15, PySem.W.mg_of X G a15, F15, F15.binds (ps := ["place"]) fun _ _ _ _ _ _ us hl => match us, hl with | [_], _ => rfl, ?_⟩
      intro q v hq hv
      match q, hq with
      | 0, hq => cases hq; exact absurd hv (by decide)
      | 1, hq => cases hq; exact absurd hv (by decide)
      | 2, hq => cases hq; exact absurd hv (by decide)
      | 3, hq => cases hq; exact absurd hv (by decide)
      | 4, hq => cases hq; exact absurd hv (by decide)
      | 5, hq => cases hq; exact absurd hv (by decide)
      | q + 6, hq => exact absurd hq (by simp [pr])
    | 16, hj =>
      cases hj
      refine ⟨ok16, PySem.W.mg_of X G a16, F16, F16.binds (ps := ["word"]) fun _ _ _ _ _ _ us hl => match us, hl with | [_], _ => rfl, ?_⟩
      intro q v hq hv
      match q, hq with
      | 0, hq => cases hq; exact absurd hv (by decide)
      | 1, hq => cases hq; exact absurd hv (by decide)
      | 2, hq => cases hq; exact absurd hv (by decide)
      | 3, hq => cases hq; exact absurd hv (by decide)
      | 4, hq => cases hq; exact absurd hv (by decide)
      | 5, hq => cases hq; exact absurd hv (by decide)
      | q + 6, hq => exact absurd hq (by simp [pr])
    | 17, hj =>
      cases hj
      refine ⟨ok17, PySem.W.mg_of X G a17, F17, F17.binds (ps := ["bag"]) fun _ _ _ _ _ _ us hl => match us, hl with | [_], _ => rfl, ?_⟩
      intro q v hq hv
      match q, hq with
      | 0, hq => cases hq; exact absurd hv (by decide)
      | 1, hq => cases hq; exact absurd hv (by decide)
      | 2, hq => cases hq; exact absurd hv (by decide)
      | 3, hq => cases hq; exact absurd hv (by decide)
      | 4, hq => cases hq; exact absurd hv (by decide)
      | 5, hq => cases hq; exact absurd hv (by decide)
      | q + 6, hq => exact absurd hq (by simp [pr])
    | 18, hj =>
      cases hj
      refine ⟨ok18, PySem.W.mg_of X G a18, F18, F18.binds (ps := ["script"]) fun _ _ _ _ _ _ us hl => match us, hl with | [_], _ => rfl, ?_⟩
      intro q v hq hv
      match q, hq with
      | 0, hq => cases hq; exact absurd hv (by decide)
      | 1, hq => cases hq; exact absurd hv (by decide)
      | 2, hq => cases hq; exact absurd hv (by decide)
      | 3, hq => cases hq; exact absurd hv (by decide)
      | 4, hq => cases hq; exact absurd hv (by decide)
      | 5, hq => cases hq; exact absurd hv (by decide)
      | q + 6, hq => exact absurd hq (by simp [pr])
    | j + 19, hj => exact absurd hj (by simp [pr])
  · intro x hx
    simp only [pr, List.mem_cons, List.not_mem_nil, or_false] at hx
    rcases hx with rfl | rfl | rfl | rfl | rfl | rfl | rfl | rfl | rfl | rfl | rfl | rfl
    · exact PySem.W.mg_none_of X G z0
    · exact PySem.W.mg_none_of X G z1
    · exact PySem.W.mg_none_of X G z2
    · exact PySem.W.mg_none_of X G z3
    · exact PySem.W.mg_none_of X G z4
    · exact PySem.W.mg_none_of X G z5
    · exact PySem.W.mg_none_of X G z6
    · exact PySem.W.mg_none_of X G z7
    · exact PySem.W.mg_none_of X G z8
    · exact PySem.W.mg_none_of X G z9
    · exact PySem.W.mg_none_of X G z10
    · exact PySem.W.mg_none_of X G z11
  · intro j x hx
    match j, hx with
    | 0, hx => cases hx; exact ⟨_, .int _, _, PySem.W.mg_of X G glo0, ⟨_, rfl⟩, rfl, fun _ _ => .int _⟩
    | j + 1, hx => exact absurd hx (by simp [pr])
end K01
set_option Elab.async false
set_option linter.all false
set_option maxRecDepth 100000
set_option maxHeartbeats 4000000
namespace K01
open PySem PySem.Spec PyProof.Rows L2 Iv
abbrev P : Pg := pr.pg
/-! ### words and places, in plain Lean -/
def lsb : Nat → Nat → List Int
  | 0, _ => []
  | f + 1, n => if n ≤ 1 then [] else ((n % 2 : Nat) : Int) :: lsb f (n / 2)
def digs (n : Nat) : List Int := (lsb 200 n).reverse
def plv (bs : List Int) : Int := bs.foldl (fun a b => 2 * a + b) 1
def Bits (bs : List Int) : Prop := ∀ b ∈ bs, b = 0 ∨ b = 1
theorem lsb_bits : ∀ f n, Bits (lsb f n)
  | 0, _ => fun b h => by simp [lsb] at h
  | f + 1, n => fun b h => by
    rw [lsb] at h
    split at h
    · simp at h
    · rcases List.mem_cons.mp h with rfl | h
      · omega
      · exact lsb_bits f _ b h
theorem lsb_len : ∀ f n, (lsb f n).length ≤ f
  | 0, _ => Nat.le_refl _
  | f + 1, n => by
    rw [lsb]
    split
    · exact Nat.zero_le _
    · have := lsb_len f (n / 2)
      simp only [List.length_cons]
      omega
theorem digs_bits (n : Nat) : Bits (digs n) := fun b h => lsb_bits _ _ b (List.mem_reverse.mp h)
theorem digs_len (n : Nat) : (digs n).length ≤ 200 := by rw [digs, List.length_reverse]; exact lsb_len _ _
theorem plv_lsb : ∀ f n, 1 ≤ n → n < 2 ^ (f + 1) → (lsb f n).foldr (fun b a => 2 * a + b) 1 = (n : Int)
  | 0, n, h, h2 => by
    have : n = 1 := by omega
    subst this; rfl
  | f + 1, n, h, h2 => by
    rw [lsb]
    split
    · have : n = 1 := by omega
      subst this; rfl
    · rw [List.foldr_cons, plv_lsb f (n / 2) (by omega) (by rw [Nat.pow_succ] at h2; omega)]
      omega
theorem plv_digs {n : Nat} (h : 1 ≤ n) (h2 : n < 2 ^ 200) : plv (digs n) = n := by
  unfold plv digs
  rw [List.foldl_reverse]
  exact plv_lsb 200 n h (Nat.lt_of_lt_of_le h2 (Nat.pow_le_pow_right (by decide) (by decide)))
theorem plv_range : ∀ (bs : List Int) (a : Int) (k : Nat), Bits bs → (2 : Int) ^ k ≤ a → a < (2 : Int) ^ (k + 1) → (2 : Int) ^ (k + bs.length) ≤ bs.foldl (fun a b => 2 * a + b) a ∧ bs.foldl (fun a b => 2 * a + b) a < (2 : Int) ^ (k + bs.length + 1)
  | [], a, k, _, h1, h2 => ⟨h1, h2⟩
  | b :: bs, a, k, hb, h1, h2 => by
    have hb0 := hb b List.mem_cons_self
    have := plv_range bs (2 * a + b) (k + 1) (fun c hc => hb c (List.mem_cons_of_mem _ hc)) (by rw [Int.pow_succ]; omega) (by rw [Int.pow_succ] at h2 ⊢; rw [Int.pow_succ]; omega)
    rw [List.foldl_cons, List.length_cons, ← Nat.add_assoc, Nat.add_right_comm]
    exact this
theorem plv_in {bs : List Int} (h : Bits bs) : (2 : Int) ^ bs.length ≤ plv bs ∧ plv bs < (2 : Int) ^ (bs.length + 1) := by
  have := plv_range bs 1 0 h (by decide) (by decide)
  rwa [Nat.zero_add] at this
theorem log_of {a : Int} {k : Nat} (h : 0 ≤ a) (h2 : a < (2 : Int) ^ k) (hk : 0 < k) : a.natAbs.log2 < k := by
  refine log2_of ?_ hk
  have e : ((2 ^ k : Nat) : Int) = (2 : Int) ^ k := by simp
  omega
theorem pow_log {k m : Nat} (h : k ≤ m) : (2 : Int) ^ k ≤ (2 : Int) ^ m := by
  have := Nat.pow_le_pow_right (n := 2) (by decide) h
  have e : ∀ k, ((2 ^ k : Nat) : Int) = (2 : Int) ^ k := fun k => by simp
  rw [← e, ← e]
  exact Int.ofNat_le.mpr this
/-! ### the defs -/
def isW : D → Bool
  | .int _ => true
  | _ => false
/-- a value whose kind can be asked -/
def Kd (s : Sto) : D → Prop
  | .rol _ => False
  | .loc n => n < s.length
  | _ => True
theorem ty_int {s : Sto} : ∀ {d : D}, Kd s d → tyB .int d s = some (isW d || (match d with
    | .bl _ => true
    | _ => false)) ∧ tyB .bool d s = some (match d with
    | .bl _ => true
    | _ => false)
  | .non, _ => ⟨rfl, rfl⟩
  | .bl _, _ => ⟨rfl, rfl⟩
  | .int _, _ => ⟨rfl, rfl⟩
  | .str _, _ => ⟨rfl, rfl⟩
  | .tup _, _ => ⟨rfl, rfl⟩
  | .loc n, h => by
    have h' : n < s.length := h
    simp only [tyB, isW]
    rw [List.getElem?_eq_getElem h']
    cases s[n] <;> exact ⟨rfl, rfl⟩
theorem isint_ok {n f : Nat} {s : Sto} {d : D} (hf : P.fn[f]? = some ⟨1, 1, b0⟩) (h : Kd s d) : Wp (run P (n + 1) f [d] s) fun r s' => r = .bl (isW d) ∧ s' = s := by
  refine run_fn hf rfl (by decide) ?_
  unfold b0
  show Wp (evSs _ _ [some d] s) _
  (repeat (first | ((with_reducible show Wp (evSs _ _ (List.set _ _ _) _) _); simp only [List.set_cons_succ, List.set_cons_zero]) | with_reducible (first | apply s_cons | apply th_nx | apply th_rt | apply th_bk | apply th_ct | apply s_nil | apply s_set | apply s_par2 | apply s_seti | apply s_ife | apply s_ret | apply s_retN | apply s_exp | apply s_brk | apply s_cnt | apply s_pss | apply s_loop | apply rt_rt | apply rt_nx | apply wh_nx | apply wh_ct | apply wh_bk | apply wh_rt | apply w_int | apply w_non | apply w_bl | apply w_str | apply w_tup | apply w_lst | apply w_dct0 | apply es_nil | apply es_cons | apply w_bin | apply w_neg | apply w_cmp | apply w_chn | apply w_and | apply w_or | apply w_not | apply w_ife | apply w_idx | apply w_slc | apply w_rev | apply w_call | apply w_bi | apply w_isi | apply w_mth | apply w_lc | apply o_no | apply o_so | apply ts_nil | apply ts_cons | apply i_val | apply i_rng1 | apply i_rng2 | apply i_enu | apply i_zip | apply o_addI | apply o_subI | apply b_lenT | apply b_lenR | apply b_abs | apply b_intI | apply b_tupT | apply b_listT | apply l_tup | apply l_rol | apply bo_bl) | ((with_reducible apply s_augA); rfl) | ((with_reducible apply s_augS); rfl) | ((with_reducible apply w_var); rfl) | ((with_reducible apply w_glb); rfl) | ((with_reducible apply w_calk); rfl) | ((fail_if_success (with_reducible show ∃ k, opC .NotIn _ _ _ = some k ∧ _)); (fail_if_success (with_reducible show ∃ k, opC .In _ _ _ = some k ∧ _)); refine ⟨_, rfl, ?_⟩)))
  refine ⟨_, (ty_int h).1, ?_⟩
  (repeat (first | ((with_reducible show Wp (evSs _ _ (List.set _ _ _) _) _); simp only [List.set_cons_succ, List.set_cons_zero]) | with_reducible (first | apply s_cons | apply th_nx | apply th_rt | apply th_bk | apply th_ct | apply s_nil | apply s_set | apply s_par2 | apply s_seti | apply s_ife | apply s_ret | apply s_retN | apply s_exp | apply s_brk | apply s_cnt | apply s_pss | apply s_loop | apply rt_rt | apply rt_nx | apply wh_nx | apply wh_ct | apply wh_bk | apply wh_rt | apply w_int | apply w_non | apply w_bl | apply w_str | apply w_tup | apply w_lst | apply w_dct0 | apply es_nil | apply es_cons | apply w_bin | apply w_neg | apply w_cmp | apply w_chn | apply w_and | apply w_or | apply w_not | apply w_ife | apply w_idx | apply w_slc | apply w_rev | apply w_call | apply w_bi | apply w_isi | apply w_mth | apply w_lc | apply o_no | apply o_so | apply ts_nil | apply ts_cons | apply i_val | apply i_rng1 | apply i_rng2 | apply i_enu | apply i_zip | apply o_addI | apply o_subI | apply b_lenT | apply b_lenR | apply b_abs | apply b_intI | apply b_tupT | apply b_listT | apply l_tup | apply l_rol | apply bo_bl) | ((with_reducible apply s_augA); rfl) | ((with_reducible apply s_augS); rfl) | ((with_reducible apply w_var); rfl) | ((with_reducible apply w_glb); rfl) | ((with_reducible apply w_calk); rfl) | ((fail_if_success (with_reducible show ∃ k, opC .NotIn _ _ _ = some k ∧ _)); (fail_if_success (with_reducible show ∃ k, opC .In _ _ _ = some k ∧ _)); refine ⟨_, rfl, ?_⟩)))
  refine ⟨fun _ => ?_, fun e => ?_⟩
  · (repeat (first | ((with_reducible show Wp (evSs _ _ (List.set _ _ _) _) _); simp only [List.set_cons_succ, List.set_cons_zero]) | with_reducible (first | apply s_cons | apply th_nx | apply th_rt | apply th_bk | apply th_ct | apply s_nil | apply s_set | apply s_par2 | apply s_seti | apply s_ife | apply s_ret | apply s_retN | apply s_exp | apply s_brk | apply s_cnt | apply s_pss | apply s_loop | apply rt_rt | apply rt_nx | apply wh_nx | apply wh_ct | apply wh_bk | apply wh_rt | apply w_int | apply w_non | apply w_bl | apply w_str | apply w_tup | apply w_lst | apply w_dct0 | apply es_nil | apply es_cons | apply w_bin | apply w_neg | apply w_cmp | apply w_chn | apply w_and | apply w_or | apply w_not | apply w_ife | apply w_idx | apply w_slc | apply w_rev | apply w_call | apply w_bi | apply w_isi | apply w_mth | apply w_lc | apply o_no | apply o_so | apply ts_nil | apply ts_cons | apply i_val | apply i_rng1 | apply i_rng2 | apply i_enu | apply i_zip | apply o_addI | apply o_subI | apply b_lenT | apply b_lenR | apply b_abs | apply b_intI | apply b_tupT | apply b_listT | apply l_tup | apply l_rol | apply bo_bl) | ((with_reducible apply s_augA); rfl) | ((with_reducible apply s_augS); rfl) | ((with_reducible apply w_var); rfl) | ((with_reducible apply w_glb); rfl) | ((with_reducible apply w_calk); rfl) | ((fail_if_success (with_reducible show ∃ k, opC .NotIn _ _ _ = some k ∧ _)); (fail_if_success (with_reducible show ∃ k, opC .In _ _ _ = some k ∧ _)); refine ⟨_, rfl, ?_⟩)))
    refine ⟨_, (ty_int h).2, ?_⟩
    (repeat (first | ((with_reducible show Wp (evSs _ _ (List.set _ _ _) _) _); simp only [List.set_cons_succ, List.set_cons_zero]) | with_reducible (first | apply s_cons | apply th_nx | apply th_rt | apply th_bk | apply th_ct | apply s_nil | apply s_set | apply s_par2 | apply s_seti | apply s_ife | apply s_ret | apply s_retN | apply s_exp | apply s_brk | apply s_cnt | apply s_pss | apply s_loop | apply rt_rt | apply rt_nx | apply wh_nx | apply wh_ct | apply wh_bk | apply wh_rt | apply w_int | apply w_non | apply w_bl | apply w_str | apply w_tup | apply w_lst | apply w_dct0 | apply es_nil | apply es_cons | apply w_bin | apply w_neg | apply w_cmp | apply w_chn | apply w_and | apply w_or | apply w_not | apply w_ife | apply w_idx | apply w_slc | apply w_rev | apply w_call | apply w_bi | apply w_isi | apply w_mth | apply w_lc | apply o_no | apply o_so | apply ts_nil | apply ts_cons | apply i_val | apply i_rng1 | apply i_rng2 | apply i_enu | apply i_zip | apply o_addI | apply o_subI | apply b_lenT | apply b_lenR | apply b_abs | apply b_intI | apply b_tupT | apply b_listT | apply l_tup | apply l_rol | apply bo_bl) | ((with_reducible apply s_augA); rfl) | ((with_reducible apply s_augS); rfl) | ((with_reducible apply w_var); rfl) | ((with_reducible apply w_glb); rfl) | ((with_reducible apply w_calk); rfl) | ((fail_if_success (with_reducible show ∃ k, opC .NotIn _ _ _ = some k ∧ _)); (fail_if_success (with_reducible show ∃ k, opC .In _ _ _ = some k ∧ _)); refine ⟨_, rfl, ?_⟩)))
    refine ⟨?_, rfl⟩
    cases d <;> simp_all [isW]
  · (repeat (first | ((with_reducible show Wp (evSs _ _ (List.set _ _ _) _) _); simp only [List.set_cons_succ, List.set_cons_zero]) | with_reducible (first | apply s_cons | apply th_nx | apply th_rt | apply th_bk | apply th_ct | apply s_nil | apply s_set | apply s_par2 | apply s_seti | apply s_ife | apply s_ret | apply s_retN | apply s_exp | apply s_brk | apply s_cnt | apply s_pss | apply s_loop | apply rt_rt | apply rt_nx | apply wh_nx | apply wh_ct | apply wh_bk | apply wh_rt | apply w_int | apply w_non | apply w_bl | apply w_str | apply w_tup | apply w_lst | apply w_dct0 | apply es_nil | apply es_cons | apply w_bin | apply w_neg | apply w_cmp | apply w_chn | apply w_and | apply w_or | apply w_not | apply w_ife | apply w_idx | apply w_slc | apply w_rev | apply w_call | apply w_bi | apply w_isi | apply w_mth | apply w_lc | apply o_no | apply o_so | apply ts_nil | apply ts_cons | apply i_val | apply i_rng1 | apply i_rng2 | apply i_enu | apply i_zip | apply o_addI | apply o_subI | apply b_lenT | apply b_lenR | apply b_abs | apply b_intI | apply b_tupT | apply b_listT | apply l_tup | apply l_rol | apply bo_bl) | ((with_reducible apply s_augA); rfl) | ((with_reducible apply s_augS); rfl) | ((with_reducible apply w_var); rfl) | ((with_reducible apply w_glb); rfl) | ((with_reducible apply w_calk); rfl) | ((fail_if_success (with_reducible show ∃ k, opC .NotIn _ _ _ = some k ∧ _)); (fail_if_success (with_reducible show ∃ k, opC .In _ _ _ = some k ∧ _)); refine ⟨_, rfl, ?_⟩)))
    refine ⟨?_, rfl⟩
    cases d <;> simp_all [isW]
theorem f0 : P.fn[0]? = some ⟨1, 1, b0⟩ := rfl
theorem f10 : P.fn[10]? = some ⟨1, 1, b0⟩ := rfl
/-- end_of -/
def lastD : List Int → D
  | [] => .non
  | b :: bs => .int ((b :: bs).getLast (by simp))
theorem endE {g : Cfg} {env : Iv.Env} {s : Sto} {i : Nat} {bs : List Int} (h : env[i]?.join = some (D.tup (bs.map D.int))) : Wp (evE g (.ife (.cmp .NotEq (.var i) (.tup .nil)) (.idx (.var i) (.neg (.int 1))) .non) env s) fun d s' => d = lastD bs ∧ s' = s := by
  refine w_ife (w_cmp (w_var h ?_))
  (repeat (first | ((with_reducible show Wp (evSs _ _ (List.set _ _ _) _) _); simp only [List.set_cons_succ, List.set_cons_zero]) | with_reducible (first | apply s_cons | apply th_nx | apply th_rt | apply th_bk | apply th_ct | apply s_nil | apply s_set | apply s_par2 | apply s_seti | apply s_ife | apply s_ret | apply s_retN | apply s_exp | apply s_brk | apply s_cnt | apply s_pss | apply s_loop | apply rt_rt | apply rt_nx | apply wh_nx | apply wh_ct | apply wh_bk | apply wh_rt | apply w_int | apply w_non | apply w_bl | apply w_str | apply w_tup | apply w_lst | apply w_dct0 | apply es_nil | apply es_cons | apply w_bin | apply w_neg | apply w_cmp | apply w_chn | apply w_and | apply w_or | apply w_not | apply w_ife | apply w_idx | apply w_slc | apply w_rev | apply w_call | apply w_bi | apply w_isi | apply w_mth | apply w_lc | apply o_no | apply o_so | apply ts_nil | apply ts_cons | apply i_val | apply i_rng1 | apply i_rng2 | apply i_enu | apply i_zip | apply o_addI | apply o_subI | apply b_lenT | apply b_lenR | apply b_abs | apply b_intI | apply b_tupT | apply b_listT | apply l_tup | apply l_rol | apply bo_bl) | ((with_reducible apply s_augA); rfl) | ((with_reducible apply s_augS); rfl) | ((with_reducible apply w_var); rfl) | ((with_reducible apply w_glb); rfl) | ((with_reducible apply w_calk); rfl) | ((fail_if_success (with_reducible show ∃ k, opC .NotIn _ _ _ = some k ∧ _)); (fail_if_success (with_reducible show ∃ k, opC .In _ _ _ = some k ∧ _)); refine ⟨_, rfl, ?_⟩)))
  refine ⟨_, c_ne eq_ints_tup, ?_⟩
  (repeat (first | ((with_reducible show Wp (evSs _ _ (List.set _ _ _) _) _); simp only [List.set_cons_succ, List.set_cons_zero]) | with_reducible (first | apply s_cons | apply th_nx | apply th_rt | apply th_bk | apply th_ct | apply s_nil | apply s_set | apply s_par2 | apply s_seti | apply s_ife | apply s_ret | apply s_retN | apply s_exp | apply s_brk | apply s_cnt | apply s_pss | apply s_loop | apply rt_rt | apply rt_nx | apply wh_nx | apply wh_ct | apply wh_bk | apply wh_rt | apply w_int | apply w_non | apply w_bl | apply w_str | apply w_tup | apply w_lst | apply w_dct0 | apply es_nil | apply es_cons | apply w_bin | apply w_neg | apply w_cmp | apply w_chn | apply w_and | apply w_or | apply w_not | apply w_ife | apply w_idx | apply w_slc | apply w_rev | apply w_call | apply w_bi | apply w_isi | apply w_mth | apply w_lc | apply o_no | apply o_so | apply ts_nil | apply ts_cons | apply i_val | apply i_rng1 | apply i_rng2 | apply i_enu | apply i_zip | apply o_addI | apply o_subI | apply b_lenT | apply b_lenR | apply b_abs | apply b_intI | apply b_tupT | apply b_listT | apply l_tup | apply l_rol | apply bo_bl) | ((with_reducible apply s_augA); rfl) | ((with_reducible apply s_augS); rfl) | ((with_reducible apply w_var); rfl) | ((with_reducible apply w_glb); rfl) | ((with_reducible apply w_calk); rfl) | ((fail_if_success (with_reducible show ∃ k, opC .NotIn _ _ _ = some k ∧ _)); (fail_if_success (with_reducible show ∃ k, opC .In _ _ _ = some k ∧ _)); refine ⟨_, rfl, ?_⟩)))
  refine ⟨fun e => ?_, fun e => ?_⟩
  · refine w_idx (w_var h ?_)
    (repeat (first | ((with_reducible show Wp (evSs _ _ (List.set _ _ _) _) _); simp only [List.set_cons_succ, List.set_cons_zero]) | with_reducible (first | apply s_cons | apply th_nx | apply th_rt | apply th_bk | apply th_ct | apply s_nil | apply s_set | apply s_par2 | apply s_seti | apply s_ife | apply s_ret | apply s_retN | apply s_exp | apply s_brk | apply s_cnt | apply s_pss | apply s_loop | apply rt_rt | apply rt_nx | apply wh_nx | apply wh_ct | apply wh_bk | apply wh_rt | apply w_int | apply w_non | apply w_bl | apply w_str | apply w_tup | apply w_lst | apply w_dct0 | apply es_nil | apply es_cons | apply w_bin | apply w_neg | apply w_cmp | apply w_chn | apply w_and | apply w_or | apply w_not | apply w_ife | apply w_idx | apply w_slc | apply w_rev | apply w_call | apply w_bi | apply w_isi | apply w_mth | apply w_lc | apply o_no | apply o_so | apply ts_nil | apply ts_cons | apply i_val | apply i_rng1 | apply i_rng2 | apply i_enu | apply i_zip | apply o_addI | apply o_subI | apply b_lenT | apply b_lenR | apply b_abs | apply b_intI | apply b_tupT | apply b_listT | apply l_tup | apply l_rol | apply bo_bl) | ((with_reducible apply s_augA); rfl) | ((with_reducible apply s_augS); rfl) | ((with_reducible apply w_var); rfl) | ((with_reducible apply w_glb); rfl) | ((with_reducible apply w_calk); rfl) | ((fail_if_success (with_reducible show ∃ k, opC .NotIn _ _ _ = some k ∧ _)); (fail_if_success (with_reducible show ∃ k, opC .In _ _ _ = some k ∧ _)); refine ⟨_, rfl, ?_⟩)))
    cases bs with
    | nil => simp at e
    | cons b bs =>
      refine i_tup (d := .int ((b :: bs).getLast (by simp))) ?_ ⟨rfl, rfl⟩
      obtain ⟨cs, c, hc⟩ : ∃ cs c, b :: bs = cs ++ [c] := ⟨(b :: bs).dropLast, (b :: bs).getLast (by simp), (List.dropLast_concat_getLast (by simp)).symm⟩
      have : (b :: bs).getLast (by simp) = c := by simp [hc]
      rw [this, hc, List.map_append]
      exact atI_last _ _
  · cases bs with
    | nil => (repeat (first | ((with_reducible show Wp (evSs _ _ (List.set _ _ _) _) _); simp only [List.set_cons_succ, List.set_cons_zero]) | with_reducible (first | apply s_cons | apply th_nx | apply th_rt | apply th_bk | apply th_ct | apply s_nil | apply s_set | apply s_par2 | apply s_seti | apply s_ife | apply s_ret | apply s_retN | apply s_exp | apply s_brk | apply s_cnt | apply s_pss | apply s_loop | apply rt_rt | apply rt_nx | apply wh_nx | apply wh_ct | apply wh_bk | apply wh_rt | apply w_int | apply w_non | apply w_bl | apply w_str | apply w_tup | apply w_lst | apply w_dct0 | apply es_nil | apply es_cons | apply w_bin | apply w_neg | apply w_cmp | apply w_chn | apply w_and | apply w_or | apply w_not | apply w_ife | apply w_idx | apply w_slc | apply w_rev | apply w_call | apply w_bi | apply w_isi | apply w_mth | apply w_lc | apply o_no | apply o_so | apply ts_nil | apply ts_cons | apply i_val | apply i_rng1 | apply i_rng2 | apply i_enu | apply i_zip | apply o_addI | apply o_subI | apply b_lenT | apply b_lenR | apply b_abs | apply b_intI | apply b_tupT | apply b_listT | apply l_tup | apply l_rol | apply bo_bl) | ((with_reducible apply s_augA); rfl) | ((with_reducible apply s_augS); rfl) | ((with_reducible apply w_var); rfl) | ((with_reducible apply w_glb); rfl) | ((with_reducible apply w_calk); rfl) | ((fail_if_success (with_reducible show ∃ k, opC .NotIn _ _ _ = some k ∧ _)); (fail_if_success (with_reducible show ∃ k, opC .In _ _ _ = some k ∧ _)); refine ⟨_, rfl, ?_⟩))); exact ⟨rfl, rfl⟩
    | cons b bs => simp at e
theorem f2 : P.fn[2]? = some ⟨1, 1, b2⟩ := rfl
theorem end_ok {n : Nat} {s : Sto} {bs : List Int} : Wp (run P (n + 1) 2 [.tup (bs.map D.int)] s) fun r s' => r = lastD bs ∧ s' = s := by
  refine run_fn f2 rfl (by decide) ?_
  unfold b2
  show Wp (evSs _ _ [some (.tup (bs.map D.int))] s) _
  (first | ((with_reducible show Wp (evSs _ _ (List.set _ _ _) _) _); simp only [List.set_cons_succ, List.set_cons_zero]) | with_reducible (first | apply s_cons | apply th_nx | apply th_rt | apply th_bk | apply th_ct | apply s_nil | apply s_set | apply s_par2 | apply s_seti | apply s_ife | apply s_ret | apply s_retN | apply s_exp | apply s_brk | apply s_cnt | apply s_pss | apply s_loop | apply rt_rt | apply rt_nx | apply wh_nx | apply wh_ct | apply wh_bk | apply wh_rt | apply w_int | apply w_non | apply w_bl | apply w_str | apply w_tup | apply w_lst | apply w_dct0 | apply es_nil | apply es_cons | apply w_bin | apply w_neg | apply w_cmp | apply w_chn | apply w_and | apply w_or | apply w_not | apply w_ife | apply w_idx | apply w_slc | apply w_rev | apply w_call | apply w_bi | apply w_isi | apply w_mth | apply w_lc | apply o_no | apply o_so | apply ts_nil | apply ts_cons | apply i_val | apply i_rng1 | apply i_rng2 | apply i_enu | apply i_zip | apply o_addI | apply o_subI | apply b_lenT | apply b_lenR | apply b_abs | apply b_intI | apply b_tupT | apply b_listT | apply l_tup | apply l_rol | apply bo_bl) | ((with_reducible apply s_augA); rfl) | ((with_reducible apply s_augS); rfl) | ((with_reducible apply w_var); rfl) | ((with_reducible apply w_glb); rfl) | ((with_reducible apply w_calk); rfl) | ((fail_if_success (with_reducible show ∃ k, opC .NotIn _ _ _ = some k ∧ _)); (fail_if_success (with_reducible show ∃ k, opC .In _ _ _ = some k ∧ _)); refine ⟨_, rfl, ?_⟩))
  (first | ((with_reducible show Wp (evSs _ _ (List.set _ _ _) _) _); simp only [List.set_cons_succ, List.set_cons_zero]) | with_reducible (first | apply s_cons | apply th_nx | apply th_rt | apply th_bk | apply th_ct | apply s_nil | apply s_set | apply s_par2 | apply s_seti | apply s_ife | apply s_ret | apply s_retN | apply s_exp | apply s_brk | apply s_cnt | apply s_pss | apply s_loop | apply rt_rt | apply rt_nx | apply wh_nx | apply wh_ct | apply wh_bk | apply wh_rt | apply w_int | apply w_non | apply w_bl | apply w_str | apply w_tup | apply w_lst | apply w_dct0 | apply es_nil | apply es_cons | apply w_bin | apply w_neg | apply w_cmp | apply w_chn | apply w_and | apply w_or | apply w_not | apply w_ife | apply w_idx | apply w_slc | apply w_rev | apply w_call | apply w_bi | apply w_isi | apply w_mth | apply w_lc | apply o_no | apply o_so | apply ts_nil | apply ts_cons | apply i_val | apply i_rng1 | apply i_rng2 | apply i_enu | apply i_zip | apply o_addI | apply o_subI | apply b_lenT | apply b_lenR | apply b_abs | apply b_intI | apply b_tupT | apply b_listT | apply l_tup | apply l_rol | apply bo_bl) | ((with_reducible apply s_augA); rfl) | ((with_reducible apply s_augS); rfl) | ((with_reducible apply w_var); rfl) | ((with_reducible apply w_glb); rfl) | ((with_reducible apply w_calk); rfl) | ((fail_if_success (with_reducible show ∃ k, opC .NotIn _ _ _ = some k ∧ _)); (fail_if_success (with_reducible show ∃ k, opC .In _ _ _ = some k ∧ _)); refine ⟨_, rfl, ?_⟩))
  exact wp_mono (endE rfl) fun d s' h => th_rt (rt_rt h)
theorem ints_of : ∀ bs : List Int, intsOf (bs.map D.int) = some bs
  | [] => rfl
  | b :: bs => by
    show (intsOf (bs.map D.int)).map (b :: ·) = _
    rw [ints_of bs]; rfl
theorem f3 : P.fn[3]? = some ⟨1, 1, b3⟩ := rfl
theorem counted_ok {n : Nat} {s : Sto} {bs : List Int} : Wp (run P (n + 1) 3 [.tup (bs.map D.int)] s) fun r s' => r = .tup [.int ((bs.map D.int).length - bs.sum), .int bs.sum] ∧ s' = s := by
  refine run_fn f3 rfl (by decide) ?_
  unfold b3
  show Wp (evSs _ _ [some (.tup (bs.map D.int))] s) _
  (repeat (first | ((with_reducible show Wp (evSs _ _ (List.set _ _ _) _) _); simp only [List.set_cons_succ, List.set_cons_zero]) | with_reducible (first | apply s_cons | apply th_nx | apply th_rt | apply th_bk | apply th_ct | apply s_nil | apply s_set | apply s_par2 | apply s_seti | apply s_ife | apply s_ret | apply s_retN | apply s_exp | apply s_brk | apply s_cnt | apply s_pss | apply s_loop | apply rt_rt | apply rt_nx | apply wh_nx | apply wh_ct | apply wh_bk | apply wh_rt | apply w_int | apply w_non | apply w_bl | apply w_str | apply w_tup | apply w_lst | apply w_dct0 | apply es_nil | apply es_cons | apply w_bin | apply w_neg | apply w_cmp | apply w_chn | apply w_and | apply w_or | apply w_not | apply w_ife | apply w_idx | apply w_slc | apply w_rev | apply w_call | apply w_bi | apply w_isi | apply w_mth | apply w_lc | apply o_no | apply o_so | apply ts_nil | apply ts_cons | apply i_val | apply i_rng1 | apply i_rng2 | apply i_enu | apply i_zip | apply o_addI | apply o_subI | apply b_lenT | apply b_lenR | apply b_abs | apply b_intI | apply b_tupT | apply b_listT | apply l_tup | apply l_rol | apply bo_bl) | ((with_reducible apply s_augA); rfl) | ((with_reducible apply s_augS); rfl) | ((with_reducible apply w_var); rfl) | ((with_reducible apply w_glb); rfl) | ((with_reducible apply w_calk); rfl) | ((fail_if_success (with_reducible show ∃ k, opC .NotIn _ _ _ = some k ∧ _)); (fail_if_success (with_reducible show ∃ k, opC .In _ _ _ = some k ∧ _)); refine ⟨_, rfl, ?_⟩)))
  refine b_sum (xs := bs.map D.int) rfl (ints_of bs) ?_
  (repeat (first | ((with_reducible show Wp (evSs _ _ (List.set _ _ _) _) _); simp only [List.set_cons_succ, List.set_cons_zero]) | with_reducible (first | apply s_cons | apply th_nx | apply th_rt | apply th_bk | apply th_ct | apply s_nil | apply s_set | apply s_par2 | apply s_seti | apply s_ife | apply s_ret | apply s_retN | apply s_exp | apply s_brk | apply s_cnt | apply s_pss | apply s_loop | apply rt_rt | apply rt_nx | apply wh_nx | apply wh_ct | apply wh_bk | apply wh_rt | apply w_int | apply w_non | apply w_bl | apply w_str | apply w_tup | apply w_lst | apply w_dct0 | apply es_nil | apply es_cons | apply w_bin | apply w_neg | apply w_cmp | apply w_chn | apply w_and | apply w_or | apply w_not | apply w_ife | apply w_idx | apply w_slc | apply w_rev | apply w_call | apply w_bi | apply w_isi | apply w_mth | apply w_lc | apply o_no | apply o_so | apply ts_nil | apply ts_cons | apply i_val | apply i_rng1 | apply i_rng2 | apply i_enu | apply i_zip | apply o_addI | apply o_subI | apply b_lenT | apply b_lenR | apply b_abs | apply b_intI | apply b_tupT | apply b_listT | apply l_tup | apply l_rol | apply bo_bl) | ((with_reducible apply s_augA); rfl) | ((with_reducible apply s_augS); rfl) | ((with_reducible apply w_var); rfl) | ((with_reducible apply w_glb); rfl) | ((with_reducible apply w_calk); rfl) | ((fail_if_success (with_reducible show ∃ k, opC .NotIn _ _ _ = some k ∧ _)); (fail_if_success (with_reducible show ∃ k, opC .In _ _ _ = some k ∧ _)); refine ⟨_, rfl, ?_⟩)))
  refine b_sum (xs := bs.map D.int) rfl (ints_of bs) ?_
  (repeat (first | ((with_reducible show Wp (evSs _ _ (List.set _ _ _) _) _); simp only [List.set_cons_succ, List.set_cons_zero]) | with_reducible (first | apply s_cons | apply th_nx | apply th_rt | apply th_bk | apply th_ct | apply s_nil | apply s_set | apply s_par2 | apply s_seti | apply s_ife | apply s_ret | apply s_retN | apply s_exp | apply s_brk | apply s_cnt | apply s_pss | apply s_loop | apply rt_rt | apply rt_nx | apply wh_nx | apply wh_ct | apply wh_bk | apply wh_rt | apply w_int | apply w_non | apply w_bl | apply w_str | apply w_tup | apply w_lst | apply w_dct0 | apply es_nil | apply es_cons | apply w_bin | apply w_neg | apply w_cmp | apply w_chn | apply w_and | apply w_or | apply w_not | apply w_ife | apply w_idx | apply w_slc | apply w_rev | apply w_call | apply w_bi | apply w_isi | apply w_mth | apply w_lc | apply o_no | apply o_so | apply ts_nil | apply ts_cons | apply i_val | apply i_rng1 | apply i_rng2 | apply i_enu | apply i_zip | apply o_addI | apply o_subI | apply b_lenT | apply b_lenR | apply b_abs | apply b_intI | apply b_tupT | apply b_listT | apply l_tup | apply l_rol | apply bo_bl) | ((with_reducible apply s_augA); rfl) | ((with_reducible apply s_augS); rfl) | ((with_reducible apply w_var); rfl) | ((with_reducible apply w_glb); rfl) | ((with_reducible apply w_calk); rfl) | ((fail_if_success (with_reducible show ∃ k, opC .NotIn _ _ _ = some k ∧ _)); (fail_if_success (with_reducible show ∃ k, opC .In _ _ _ = some k ∧ _)); refine ⟨_, rfl, ?_⟩)))
  exact ⟨rfl, rfl⟩
/-! ### the judge of words -/
def bad1 : D → Bool
  | .int i => !(decide (0 ≤ i) && decide (i ≤ 1))
  | _ => true
def fbad : Nat → List D → Option Nat
  | _, [] => none
  | k, x :: xs => if bad1 x then some k else fbad (k + 1) xs
def ewT (xs : List D) : D := match fbad 0 xs with
  | some i => .tup [.str (Str.ofString "letter"), .int i]
  | none => .non
def ew : D → D
  | .tup xs => if 300 < xs.length then .str (Str.ofString "form") else ewT xs
  | _ => .str (Str.ofString "form")
def isT : D → Bool
  | .tup _ => true
  | _ => false
theorem ty_tup {s : Sto} : ∀ {d : D}, Kd s d → tyB .tuple d s = some (isT d)
  | .non, _ => rfl
  | .bl _, _ => rfl
  | .int _, _ => rfl
  | .str _, _ => rfl
  | .tup _, _ => rfl
  | .loc n, h => by
    have h' : n < s.length := h
    simp only [tyB, isT]
    rw [List.getElem?_eq_getElem h']
    cases s[n] <;> rfl
theorem f1 : P.fn[1]? = some ⟨1, 3, b1⟩ := rfl
theorem kd_len {s s' : Sto} (h : s.length ≤ s'.length) : ∀ {d : D}, Kd s d → Kd s' d
  | .non, _ => trivial
  | .bl _, _ => trivial
  | .int _, _ => trivial
  | .str _, _ => trivial
  | .tup _, _ => trivial
  | .loc n, z => Nat.lt_of_lt_of_le z h
/-- a value, and its items where it is a tuple -/
def Kt (s : Sto) (d : D) : Prop := Kd s d ∧ ∀ xs, d = .tup xs → ∀ x ∈ xs, Kd s x
theorem enum_cons {k : Nat} {xs : List D} {x : D} {rest : List D} (h : enumD k xs = x :: rest) : ∃ y ys, xs = y :: ys ∧ x = .tup [.int k, y] ∧ rest = enumD (k + 1) ys := by
  cases xs with
  | nil => cases h
  | cons y ys => cases h; exact ⟨y, ys, rfl, rfl, rfl⟩
theorem error_ok {n : Nat} {s : Sto} {d : D} (h : Kt s d) : Wp (run P (n + 2) 1 [d] s) fun r s' => r = ew d ∧ s' = s := by
  refine run_fn f1 rfl (by decide) ?_
  unfold b1
  show Wp (evSs _ _ [some d, none, none] s) _
  (repeat (first | ((with_reducible show Wp (evSs _ _ (List.set _ _ _) _) _); simp only [List.set_cons_succ, List.set_cons_zero]) | with_reducible (first | apply s_cons | apply th_nx | apply th_rt | apply th_bk | apply th_ct | apply s_nil | apply s_set | apply s_par2 | apply s_seti | apply s_ife | apply s_ret | apply s_retN | apply s_exp | apply s_brk | apply s_cnt | apply s_pss | apply s_loop | apply rt_rt | apply rt_nx | apply wh_nx | apply wh_ct | apply wh_bk | apply wh_rt | apply w_int | apply w_non | apply w_bl | apply w_str | apply w_tup | apply w_lst | apply w_dct0 | apply es_nil | apply es_cons | apply w_bin | apply w_neg | apply w_cmp | apply w_chn | apply w_and | apply w_or | apply w_not | apply w_ife | apply w_idx | apply w_slc | apply w_rev | apply w_call | apply w_bi | apply w_isi | apply w_mth | apply w_lc | apply o_no | apply o_so | apply ts_nil | apply ts_cons | apply i_val | apply i_rng1 | apply i_rng2 | apply i_enu | apply i_zip | apply o_addI | apply o_subI | apply b_lenT | apply b_lenR | apply b_abs | apply b_intI | apply b_tupT | apply b_listT | apply l_tup | apply l_rol | apply bo_bl) | ((with_reducible apply s_augA); rfl) | ((with_reducible apply s_augS); rfl) | ((with_reducible apply w_var); rfl) | ((with_reducible apply w_glb); rfl) | ((with_reducible apply w_calk); rfl) | ((fail_if_success (with_reducible show ∃ k, opC .NotIn _ _ _ = some k ∧ _)); (fail_if_success (with_reducible show ∃ k, opC .In _ _ _ = some k ∧ _)); refine ⟨_, rfl, ?_⟩)))
  refine ⟨_, ty_tup h.1, ?_⟩
  (repeat (first | ((with_reducible show Wp (evSs _ _ (List.set _ _ _) _) _); simp only [List.set_cons_succ, List.set_cons_zero]) | with_reducible (first | apply s_cons | apply th_nx | apply th_rt | apply th_bk | apply th_ct | apply s_nil | apply s_set | apply s_par2 | apply s_seti | apply s_ife | apply s_ret | apply s_retN | apply s_exp | apply s_brk | apply s_cnt | apply s_pss | apply s_loop | apply rt_rt | apply rt_nx | apply wh_nx | apply wh_ct | apply wh_bk | apply wh_rt | apply w_int | apply w_non | apply w_bl | apply w_str | apply w_tup | apply w_lst | apply w_dct0 | apply es_nil | apply es_cons | apply w_bin | apply w_neg | apply w_cmp | apply w_chn | apply w_and | apply w_or | apply w_not | apply w_ife | apply w_idx | apply w_slc | apply w_rev | apply w_call | apply w_bi | apply w_isi | apply w_mth | apply w_lc | apply o_no | apply o_so | apply ts_nil | apply ts_cons | apply i_val | apply i_rng1 | apply i_rng2 | apply i_enu | apply i_zip | apply o_addI | apply o_subI | apply b_lenT | apply b_lenR | apply b_abs | apply b_intI | apply b_tupT | apply b_listT | apply l_tup | apply l_rol | apply bo_bl) | ((with_reducible apply s_augA); rfl) | ((with_reducible apply s_augS); rfl) | ((with_reducible apply w_var); rfl) | ((with_reducible apply w_glb); rfl) | ((with_reducible apply w_calk); rfl) | ((fail_if_success (with_reducible show ∃ k, opC .NotIn _ _ _ = some k ∧ _)); (fail_if_success (with_reducible show ∃ k, opC .In _ _ _ = some k ∧ _)); refine ⟨_, rfl, ?_⟩)))
  refine ⟨fun e => ?_, fun e => ?_⟩
  · (repeat (first | ((with_reducible show Wp (evSs _ _ (List.set _ _ _) _) _); simp only [List.set_cons_succ, List.set_cons_zero]) | with_reducible (first | apply s_cons | apply th_nx | apply th_rt | apply th_bk | apply th_ct | apply s_nil | apply s_set | apply s_par2 | apply s_seti | apply s_ife | apply s_ret | apply s_retN | apply s_exp | apply s_brk | apply s_cnt | apply s_pss | apply s_loop | apply rt_rt | apply rt_nx | apply wh_nx | apply wh_ct | apply wh_bk | apply wh_rt | apply w_int | apply w_non | apply w_bl | apply w_str | apply w_tup | apply w_lst | apply w_dct0 | apply es_nil | apply es_cons | apply w_bin | apply w_neg | apply w_cmp | apply w_chn | apply w_and | apply w_or | apply w_not | apply w_ife | apply w_idx | apply w_slc | apply w_rev | apply w_call | apply w_bi | apply w_isi | apply w_mth | apply w_lc | apply o_no | apply o_so | apply ts_nil | apply ts_cons | apply i_val | apply i_rng1 | apply i_rng2 | apply i_enu | apply i_zip | apply o_addI | apply o_subI | apply b_lenT | apply b_lenR | apply b_abs | apply b_intI | apply b_tupT | apply b_listT | apply l_tup | apply l_rol | apply bo_bl) | ((with_reducible apply s_augA); rfl) | ((with_reducible apply s_augS); rfl) | ((with_reducible apply w_var); rfl) | ((with_reducible apply w_glb); rfl) | ((with_reducible apply w_calk); rfl) | ((fail_if_success (with_reducible show ∃ k, opC .NotIn _ _ _ = some k ∧ _)); (fail_if_success (with_reducible show ∃ k, opC .In _ _ _ = some k ∧ _)); refine ⟨_, rfl, ?_⟩)))
    refine ⟨fun _ => ?_, fun e => nomatch e⟩
    (repeat (first | ((with_reducible show Wp (evSs _ _ (List.set _ _ _) _) _); simp only [List.set_cons_succ, List.set_cons_zero]) | with_reducible (first | apply s_cons | apply th_nx | apply th_rt | apply th_bk | apply th_ct | apply s_nil | apply s_set | apply s_par2 | apply s_seti | apply s_ife | apply s_ret | apply s_retN | apply s_exp | apply s_brk | apply s_cnt | apply s_pss | apply s_loop | apply rt_rt | apply rt_nx | apply wh_nx | apply wh_ct | apply wh_bk | apply wh_rt | apply w_int | apply w_non | apply w_bl | apply w_str | apply w_tup | apply w_lst | apply w_dct0 | apply es_nil | apply es_cons | apply w_bin | apply w_neg | apply w_cmp | apply w_chn | apply w_and | apply w_or | apply w_not | apply w_ife | apply w_idx | apply w_slc | apply w_rev | apply w_call | apply w_bi | apply w_isi | apply w_mth | apply w_lc | apply o_no | apply o_so | apply ts_nil | apply ts_cons | apply i_val | apply i_rng1 | apply i_rng2 | apply i_enu | apply i_zip | apply o_addI | apply o_subI | apply b_lenT | apply b_lenR | apply b_abs | apply b_intI | apply b_tupT | apply b_listT | apply l_tup | apply l_rol | apply bo_bl) | ((with_reducible apply s_augA); rfl) | ((with_reducible apply s_augS); rfl) | ((with_reducible apply w_var); rfl) | ((with_reducible apply w_glb); rfl) | ((with_reducible apply w_calk); rfl) | ((fail_if_success (with_reducible show ∃ k, opC .NotIn _ _ _ = some k ∧ _)); (fail_if_success (with_reducible show ∃ k, opC .In _ _ _ = some k ∧ _)); refine ⟨_, rfl, ?_⟩)))
    refine ⟨?_, rfl⟩
    cases d <;> first | rfl | simp [isT] at e
  obtain ⟨xs, rfl⟩ : ∃ xs, d = .tup xs := by
    cases d with
    | tup xs => exact ⟨xs, rfl⟩
    | _ => simp [isT] at e
  (repeat (first | ((with_reducible show Wp (evSs _ _ (List.set _ _ _) _) _); simp only [List.set_cons_succ, List.set_cons_zero]) | with_reducible (first | apply s_cons | apply th_nx | apply th_rt | apply th_bk | apply th_ct | apply s_nil | apply s_set | apply s_par2 | apply s_seti | apply s_ife | apply s_ret | apply s_retN | apply s_exp | apply s_brk | apply s_cnt | apply s_pss | apply s_loop | apply rt_rt | apply rt_nx | apply wh_nx | apply wh_ct | apply wh_bk | apply wh_rt | apply w_int | apply w_non | apply w_bl | apply w_str | apply w_tup | apply w_lst | apply w_dct0 | apply es_nil | apply es_cons | apply w_bin | apply w_neg | apply w_cmp | apply w_chn | apply w_and | apply w_or | apply w_not | apply w_ife | apply w_idx | apply w_slc | apply w_rev | apply w_call | apply w_bi | apply w_isi | apply w_mth | apply w_lc | apply o_no | apply o_so | apply ts_nil | apply ts_cons | apply i_val | apply i_rng1 | apply i_rng2 | apply i_enu | apply i_zip | apply o_addI | apply o_subI | apply b_lenT | apply b_lenR | apply b_abs | apply b_intI | apply b_tupT | apply b_listT | apply l_tup | apply l_rol | apply bo_bl) | ((with_reducible apply s_augA); rfl) | ((with_reducible apply s_augS); rfl) | ((with_reducible apply w_var); rfl) | ((with_reducible apply w_glb); rfl) | ((with_reducible apply w_calk); rfl) | ((fail_if_success (with_reducible show ∃ k, opC .NotIn _ _ _ = some k ∧ _)); (fail_if_success (with_reducible show ∃ k, opC .In _ _ _ = some k ∧ _)); refine ⟨_, rfl, ?_⟩)))
  refine ⟨fun e => ?_, fun e => ?_⟩
  · (repeat (first | ((with_reducible show Wp (evSs _ _ (List.set _ _ _) _) _); simp only [List.set_cons_succ, List.set_cons_zero]) | with_reducible (first | apply s_cons | apply th_nx | apply th_rt | apply th_bk | apply th_ct | apply s_nil | apply s_set | apply s_par2 | apply s_seti | apply s_ife | apply s_ret | apply s_retN | apply s_exp | apply s_brk | apply s_cnt | apply s_pss | apply s_loop | apply rt_rt | apply rt_nx | apply wh_nx | apply wh_ct | apply wh_bk | apply wh_rt | apply w_int | apply w_non | apply w_bl | apply w_str | apply w_tup | apply w_lst | apply w_dct0 | apply es_nil | apply es_cons | apply w_bin | apply w_neg | apply w_cmp | apply w_chn | apply w_and | apply w_or | apply w_not | apply w_ife | apply w_idx | apply w_slc | apply w_rev | apply w_call | apply w_bi | apply w_isi | apply w_mth | apply w_lc | apply o_no | apply o_so | apply ts_nil | apply ts_cons | apply i_val | apply i_rng1 | apply i_rng2 | apply i_enu | apply i_zip | apply o_addI | apply o_subI | apply b_lenT | apply b_lenR | apply b_abs | apply b_intI | apply b_tupT | apply b_listT | apply l_tup | apply l_rol | apply bo_bl) | ((with_reducible apply s_augA); rfl) | ((with_reducible apply s_augS); rfl) | ((with_reducible apply w_var); rfl) | ((with_reducible apply w_glb); rfl) | ((with_reducible apply w_calk); rfl) | ((fail_if_success (with_reducible show ∃ k, opC .NotIn _ _ _ = some k ∧ _)); (fail_if_success (with_reducible show ∃ k, opC .In _ _ _ = some k ∧ _)); refine ⟨_, rfl, ?_⟩)))
    refine ⟨?_, rfl⟩
    have : 300 < xs.length := by have := of_decide_eq_true e; omega
    exact (if_pos this).symm
  have short : ¬ 300 < xs.length := by have := of_decide_eq_false e; omega
  have ee : ew (.tup xs) = ewT xs := if_neg short
  rw [ee]
  (repeat (first | ((with_reducible show Wp (evSs _ _ (List.set _ _ _) _) _); simp only [List.set_cons_succ, List.set_cons_zero]) | with_reducible (first | apply s_cons | apply th_nx | apply th_rt | apply th_bk | apply th_ct | apply s_nil | apply s_set | apply s_par2 | apply s_seti | apply s_ife | apply s_ret | apply s_retN | apply s_exp | apply s_brk | apply s_cnt | apply s_pss | apply s_loop | apply rt_rt | apply rt_nx | apply wh_nx | apply wh_ct | apply wh_bk | apply wh_rt | apply w_int | apply w_non | apply w_bl | apply w_str | apply w_tup | apply w_lst | apply w_dct0 | apply es_nil | apply es_cons | apply w_bin | apply w_neg | apply w_cmp | apply w_chn | apply w_and | apply w_or | apply w_not | apply w_ife | apply w_idx | apply w_slc | apply w_rev | apply w_call | apply w_bi | apply w_isi | apply w_mth | apply w_lc | apply o_no | apply o_so | apply ts_nil | apply ts_cons | apply i_val | apply i_rng1 | apply i_rng2 | apply i_enu | apply i_zip | apply o_addI | apply o_subI | apply b_lenT | apply b_lenR | apply b_abs | apply b_intI | apply b_tupT | apply b_listT | apply l_tup | apply l_rol | apply bo_bl) | ((with_reducible apply s_augA); rfl) | ((with_reducible apply s_augS); rfl) | ((with_reducible apply w_var); rfl) | ((with_reducible apply w_glb); rfl) | ((with_reducible apply w_calk); rfl) | ((fail_if_success (with_reducible show ∃ k, opC .NotIn _ _ _ = some k ∧ _)); (fail_if_success (with_reducible show ∃ k, opC .In _ _ _ = some k ∧ _)); refine ⟨_, rfl, ?_⟩)))
  refine .inl ⟨xs, rfl, ?_⟩
  refine fo_inv (fun ys e s' => s' = s ∧ ∃ x1 x2 k zs, e = [some (.tup xs), x1, x2] ∧ ys = enumD k zs ∧ fbad 0 xs = fbad k zs ∧ ∀ z ∈ zs, Kd s z) ?_ ?_ ⟨rfl, none, none, 0, xs, rfl, rfl, rfl, h.2 xs rfl⟩
  · rintro x rest e s' ⟨rfl, x1, x2, k, zs, rfl, hz, hb, hk⟩
    obtain ⟨y, ys, rfl, rfl, rfl⟩ := enum_cons hz.symm
    refine ⟨fo_none, _, rfl, ?_⟩
    (repeat (first | ((with_reducible show Wp (evSs _ _ (List.set _ _ _) _) _); simp only [List.set_cons_succ, List.set_cons_zero]) | with_reducible (first | apply s_cons | apply th_nx | apply th_rt | apply th_bk | apply th_ct | apply s_nil | apply s_set | apply s_par2 | apply s_seti | apply s_ife | apply s_ret | apply s_retN | apply s_exp | apply s_brk | apply s_cnt | apply s_pss | apply s_loop | apply rt_rt | apply rt_nx | apply wh_nx | apply wh_ct | apply wh_bk | apply wh_rt | apply w_int | apply w_non | apply w_bl | apply w_str | apply w_tup | apply w_lst | apply w_dct0 | apply es_nil | apply es_cons | apply w_bin | apply w_neg | apply w_cmp | apply w_chn | apply w_and | apply w_or | apply w_not | apply w_ife | apply w_idx | apply w_slc | apply w_rev | apply w_call | apply w_bi | apply w_isi | apply w_mth | apply w_lc | apply o_no | apply o_so | apply ts_nil | apply ts_cons | apply i_val | apply i_rng1 | apply i_rng2 | apply i_enu | apply i_zip | apply o_addI | apply o_subI | apply b_lenT | apply b_lenR | apply b_abs | apply b_intI | apply b_tupT | apply b_listT | apply l_tup | apply l_rol | apply bo_bl) | ((with_reducible apply s_augA); rfl) | ((with_reducible apply s_augS); rfl) | ((with_reducible apply w_var); rfl) | ((with_reducible apply w_glb); rfl) | ((with_reducible apply w_calk); rfl) | ((fail_if_success (with_reducible show ∃ k, opC .NotIn _ _ _ = some k ∧ _)); (fail_if_success (with_reducible show ∃ k, opC .In _ _ _ = some k ∧ _)); refine ⟨_, rfl, ?_⟩)))
    refine wp_mono (isint_ok f0 (hk y List.mem_cons_self)) ?_
    rintro r s' ⟨rfl, rfl⟩
    have hb' : fbad 0 xs = if bad1 y then some k else fbad (k + 1) ys := hb
    have ret : bad1 y = true → ewT xs = .tup [.str (Str.ofString "letter"), .int k] := fun z => by
      unfold ewT
      rw [hb', if_pos z]
    have go : bad1 y = false → fbad 0 xs = fbad (k + 1) ys := fun z => by rw [hb', z]; rfl
    have hk' : ∀ z ∈ ys, Kd s' z := fun z hz => hk z (List.mem_cons_of_mem _ hz)
    (repeat (first | ((with_reducible show Wp (evSs _ _ (List.set _ _ _) _) _); simp only [List.set_cons_succ, List.set_cons_zero]) | with_reducible (first | apply s_cons | apply th_nx | apply th_rt | apply th_bk | apply th_ct | apply s_nil | apply s_set | apply s_par2 | apply s_seti | apply s_ife | apply s_ret | apply s_retN | apply s_exp | apply s_brk | apply s_cnt | apply s_pss | apply s_loop | apply rt_rt | apply rt_nx | apply wh_nx | apply wh_ct | apply wh_bk | apply wh_rt | apply w_int | apply w_non | apply w_bl | apply w_str | apply w_tup | apply w_lst | apply w_dct0 | apply es_nil | apply es_cons | apply w_bin | apply w_neg | apply w_cmp | apply w_chn | apply w_and | apply w_or | apply w_not | apply w_ife | apply w_idx | apply w_slc | apply w_rev | apply w_call | apply w_bi | apply w_isi | apply w_mth | apply w_lc | apply o_no | apply o_so | apply ts_nil | apply ts_cons | apply i_val | apply i_rng1 | apply i_rng2 | apply i_enu | apply i_zip | apply o_addI | apply o_subI | apply b_lenT | apply b_lenR | apply b_abs | apply b_intI | apply b_tupT | apply b_listT | apply l_tup | apply l_rol | apply bo_bl) | ((with_reducible apply s_augA); rfl) | ((with_reducible apply s_augS); rfl) | ((with_reducible apply w_var); rfl) | ((with_reducible apply w_glb); rfl) | ((with_reducible apply w_calk); rfl) | ((fail_if_success (with_reducible show ∃ k, opC .NotIn _ _ _ = some k ∧ _)); (fail_if_success (with_reducible show ∃ k, opC .In _ _ _ = some k ∧ _)); refine ⟨_, rfl, ?_⟩)))
    refine ⟨fun e => ?_, fun e => ?_⟩
    · (repeat (first | ((with_reducible show Wp (evSs _ _ (List.set _ _ _) _) _); simp only [List.set_cons_succ, List.set_cons_zero]) | with_reducible (first | apply s_cons | apply th_nx | apply th_rt | apply th_bk | apply th_ct | apply s_nil | apply s_set | apply s_par2 | apply s_seti | apply s_ife | apply s_ret | apply s_retN | apply s_exp | apply s_brk | apply s_cnt | apply s_pss | apply s_loop | apply rt_rt | apply rt_nx | apply wh_nx | apply wh_ct | apply wh_bk | apply wh_rt | apply w_int | apply w_non | apply w_bl | apply w_str | apply w_tup | apply w_lst | apply w_dct0 | apply es_nil | apply es_cons | apply w_bin | apply w_neg | apply w_cmp | apply w_chn | apply w_and | apply w_or | apply w_not | apply w_ife | apply w_idx | apply w_slc | apply w_rev | apply w_call | apply w_bi | apply w_isi | apply w_mth | apply w_lc | apply o_no | apply o_so | apply ts_nil | apply ts_cons | apply i_val | apply i_rng1 | apply i_rng2 | apply i_enu | apply i_zip | apply o_addI | apply o_subI | apply b_lenT | apply b_lenR | apply b_abs | apply b_intI | apply b_tupT | apply b_listT | apply l_tup | apply l_rol | apply bo_bl) | ((with_reducible apply s_augA); rfl) | ((with_reducible apply s_augS); rfl) | ((with_reducible apply w_var); rfl) | ((with_reducible apply w_glb); rfl) | ((with_reducible apply w_calk); rfl) | ((fail_if_success (with_reducible show ∃ k, opC .NotIn _ _ _ = some k ∧ _)); (fail_if_success (with_reducible show ∃ k, opC .In _ _ _ = some k ∧ _)); refine ⟨_, rfl, ?_⟩)))
      refine ⟨fun _ => ?_, fun e => nomatch e⟩
      (repeat (first | ((with_reducible show Wp (evSs _ _ (List.set _ _ _) _) _); simp only [List.set_cons_succ, List.set_cons_zero]) | with_reducible (first | apply s_cons | apply th_nx | apply th_rt | apply th_bk | apply th_ct | apply s_nil | apply s_set | apply s_par2 | apply s_seti | apply s_ife | apply s_ret | apply s_retN | apply s_exp | apply s_brk | apply s_cnt | apply s_pss | apply s_loop | apply rt_rt | apply rt_nx | apply wh_nx | apply wh_ct | apply wh_bk | apply wh_rt | apply w_int | apply w_non | apply w_bl | apply w_str | apply w_tup | apply w_lst | apply w_dct0 | apply es_nil | apply es_cons | apply w_bin | apply w_neg | apply w_cmp | apply w_chn | apply w_and | apply w_or | apply w_not | apply w_ife | apply w_idx | apply w_slc | apply w_rev | apply w_call | apply w_bi | apply w_isi | apply w_mth | apply w_lc | apply o_no | apply o_so | apply ts_nil | apply ts_cons | apply i_val | apply i_rng1 | apply i_rng2 | apply i_enu | apply i_zip | apply o_addI | apply o_subI | apply b_lenT | apply b_lenR | apply b_abs | apply b_intI | apply b_tupT | apply b_listT | apply l_tup | apply l_rol | apply bo_bl) | ((with_reducible apply s_augA); rfl) | ((with_reducible apply s_augS); rfl) | ((with_reducible apply w_var); rfl) | ((with_reducible apply w_glb); rfl) | ((with_reducible apply w_calk); rfl) | ((fail_if_success (with_reducible show ∃ k, opC .NotIn _ _ _ = some k ∧ _)); (fail_if_success (with_reducible show ∃ k, opC .In _ _ _ = some k ∧ _)); refine ⟨_, rfl, ?_⟩)))
      refine ⟨(ret ?_).symm, rfl⟩
      cases y <;> first | rfl | simp [isW] at e
    obtain ⟨i, rfl⟩ : ∃ i, y = .int i := by
      cases y with
      | int i => exact ⟨i, rfl⟩
      | _ => simp [isW] at e
    (repeat (first | ((with_reducible show Wp (evSs _ _ (List.set _ _ _) _) _); simp only [List.set_cons_succ, List.set_cons_zero]) | with_reducible (first | apply s_cons | apply th_nx | apply th_rt | apply th_bk | apply th_ct | apply s_nil | apply s_set | apply s_par2 | apply s_seti | apply s_ife | apply s_ret | apply s_retN | apply s_exp | apply s_brk | apply s_cnt | apply s_pss | apply s_loop | apply rt_rt | apply rt_nx | apply wh_nx | apply wh_ct | apply wh_bk | apply wh_rt | apply w_int | apply w_non | apply w_bl | apply w_str | apply w_tup | apply w_lst | apply w_dct0 | apply es_nil | apply es_cons | apply w_bin | apply w_neg | apply w_cmp | apply w_chn | apply w_and | apply w_or | apply w_not | apply w_ife | apply w_idx | apply w_slc | apply w_rev | apply w_call | apply w_bi | apply w_isi | apply w_mth | apply w_lc | apply o_no | apply o_so | apply ts_nil | apply ts_cons | apply i_val | apply i_rng1 | apply i_rng2 | apply i_enu | apply i_zip | apply o_addI | apply o_subI | apply b_lenT | apply b_lenR | apply b_abs | apply b_intI | apply b_tupT | apply b_listT | apply l_tup | apply l_rol | apply bo_bl) | ((with_reducible apply s_augA); rfl) | ((with_reducible apply s_augS); rfl) | ((with_reducible apply w_var); rfl) | ((with_reducible apply w_glb); rfl) | ((with_reducible apply w_calk); rfl) | ((fail_if_success (with_reducible show ∃ k, opC .NotIn _ _ _ = some k ∧ _)); (fail_if_success (with_reducible show ∃ k, opC .In _ _ _ = some k ∧ _)); refine ⟨_, rfl, ?_⟩)))
    refine ⟨fun e => ?_, fun e => ?_⟩
    · (repeat (first | ((with_reducible show Wp (evSs _ _ (List.set _ _ _) _) _); simp only [List.set_cons_succ, List.set_cons_zero]) | with_reducible (first | apply s_cons | apply th_nx | apply th_rt | apply th_bk | apply th_ct | apply s_nil | apply s_set | apply s_par2 | apply s_seti | apply s_ife | apply s_ret | apply s_retN | apply s_exp | apply s_brk | apply s_cnt | apply s_pss | apply s_loop | apply rt_rt | apply rt_nx | apply wh_nx | apply wh_ct | apply wh_bk | apply wh_rt | apply w_int | apply w_non | apply w_bl | apply w_str | apply w_tup | apply w_lst | apply w_dct0 | apply es_nil | apply es_cons | apply w_bin | apply w_neg | apply w_cmp | apply w_chn | apply w_and | apply w_or | apply w_not | apply w_ife | apply w_idx | apply w_slc | apply w_rev | apply w_call | apply w_bi | apply w_isi | apply w_mth | apply w_lc | apply o_no | apply o_so | apply ts_nil | apply ts_cons | apply i_val | apply i_rng1 | apply i_rng2 | apply i_enu | apply i_zip | apply o_addI | apply o_subI | apply b_lenT | apply b_lenR | apply b_abs | apply b_intI | apply b_tupT | apply b_listT | apply l_tup | apply l_rol | apply bo_bl) | ((with_reducible apply s_augA); rfl) | ((with_reducible apply s_augS); rfl) | ((with_reducible apply w_var); rfl) | ((with_reducible apply w_glb); rfl) | ((with_reducible apply w_calk); rfl) | ((fail_if_success (with_reducible show ∃ k, opC .NotIn _ _ _ = some k ∧ _)); (fail_if_success (with_reducible show ∃ k, opC .In _ _ _ = some k ∧ _)); refine ⟨_, rfl, ?_⟩)))
      refine ⟨fun e2 => ?_, fun e2 => ?_⟩
      · (repeat (first | ((with_reducible show Wp (evSs _ _ (List.set _ _ _) _) _); simp only [List.set_cons_succ, List.set_cons_zero]) | with_reducible (first | apply s_cons | apply th_nx | apply th_rt | apply th_bk | apply th_ct | apply s_nil | apply s_set | apply s_par2 | apply s_seti | apply s_ife | apply s_ret | apply s_retN | apply s_exp | apply s_brk | apply s_cnt | apply s_pss | apply s_loop | apply rt_rt | apply rt_nx | apply wh_nx | apply wh_ct | apply wh_bk | apply wh_rt | apply w_int | apply w_non | apply w_bl | apply w_str | apply w_tup | apply w_lst | apply w_dct0 | apply es_nil | apply es_cons | apply w_bin | apply w_neg | apply w_cmp | apply w_chn | apply w_and | apply w_or | apply w_not | apply w_ife | apply w_idx | apply w_slc | apply w_rev | apply w_call | apply w_bi | apply w_isi | apply w_mth | apply w_lc | apply o_no | apply o_so | apply ts_nil | apply ts_cons | apply i_val | apply i_rng1 | apply i_rng2 | apply i_enu | apply i_zip | apply o_addI | apply o_subI | apply b_lenT | apply b_lenR | apply b_abs | apply b_intI | apply b_tupT | apply b_listT | apply l_tup | apply l_rol | apply bo_bl) | ((with_reducible apply s_augA); rfl) | ((with_reducible apply s_augS); rfl) | ((with_reducible apply w_var); rfl) | ((with_reducible apply w_glb); rfl) | ((with_reducible apply w_calk); rfl) | ((fail_if_success (with_reducible show ∃ k, opC .NotIn _ _ _ = some k ∧ _)); (fail_if_success (with_reducible show ∃ k, opC .In _ _ _ = some k ∧ _)); refine ⟨_, rfl, ?_⟩)))
        refine ⟨(ret ?_).symm, rfl⟩
        simp [bad1] at e2 ⊢
        omega
      · (repeat (first | ((with_reducible show Wp (evSs _ _ (List.set _ _ _) _) _); simp only [List.set_cons_succ, List.set_cons_zero]) | with_reducible (first | apply s_cons | apply th_nx | apply th_rt | apply th_bk | apply th_ct | apply s_nil | apply s_set | apply s_par2 | apply s_seti | apply s_ife | apply s_ret | apply s_retN | apply s_exp | apply s_brk | apply s_cnt | apply s_pss | apply s_loop | apply rt_rt | apply rt_nx | apply wh_nx | apply wh_ct | apply wh_bk | apply wh_rt | apply w_int | apply w_non | apply w_bl | apply w_str | apply w_tup | apply w_lst | apply w_dct0 | apply es_nil | apply es_cons | apply w_bin | apply w_neg | apply w_cmp | apply w_chn | apply w_and | apply w_or | apply w_not | apply w_ife | apply w_idx | apply w_slc | apply w_rev | apply w_call | apply w_bi | apply w_isi | apply w_mth | apply w_lc | apply o_no | apply o_so | apply ts_nil | apply ts_cons | apply i_val | apply i_rng1 | apply i_rng2 | apply i_enu | apply i_zip | apply o_addI | apply o_subI | apply b_lenT | apply b_lenR | apply b_abs | apply b_intI | apply b_tupT | apply b_listT | apply l_tup | apply l_rol | apply bo_bl) | ((with_reducible apply s_augA); rfl) | ((with_reducible apply s_augS); rfl) | ((with_reducible apply w_var); rfl) | ((with_reducible apply w_glb); rfl) | ((with_reducible apply w_calk); rfl) | ((fail_if_success (with_reducible show ∃ k, opC .NotIn _ _ _ = some k ∧ _)); (fail_if_success (with_reducible show ∃ k, opC .In _ _ _ = some k ∧ _)); refine ⟨_, rfl, ?_⟩)))
        refine ⟨rfl, _, _, k + 1, ys, rfl, rfl, go ?_, hk'⟩
        simp [bad1] at e e2 ⊢
        omega
    · (repeat (first | ((with_reducible show Wp (evSs _ _ (List.set _ _ _) _) _); simp only [List.set_cons_succ, List.set_cons_zero]) | with_reducible (first | apply s_cons | apply th_nx | apply th_rt | apply th_bk | apply th_ct | apply s_nil | apply s_set | apply s_par2 | apply s_seti | apply s_ife | apply s_ret | apply s_retN | apply s_exp | apply s_brk | apply s_cnt | apply s_pss | apply s_loop | apply rt_rt | apply rt_nx | apply wh_nx | apply wh_ct | apply wh_bk | apply wh_rt | apply w_int | apply w_non | apply w_bl | apply w_str | apply w_tup | apply w_lst | apply w_dct0 | apply es_nil | apply es_cons | apply w_bin | apply w_neg | apply w_cmp | apply w_chn | apply w_and | apply w_or | apply w_not | apply w_ife | apply w_idx | apply w_slc | apply w_rev | apply w_call | apply w_bi | apply w_isi | apply w_mth | apply w_lc | apply o_no | apply o_so | apply ts_nil | apply ts_cons | apply i_val | apply i_rng1 | apply i_rng2 | apply i_enu | apply i_zip | apply o_addI | apply o_subI | apply b_lenT | apply b_lenR | apply b_abs | apply b_intI | apply b_tupT | apply b_listT | apply l_tup | apply l_rol | apply bo_bl) | ((with_reducible apply s_augA); rfl) | ((with_reducible apply s_augS); rfl) | ((with_reducible apply w_var); rfl) | ((with_reducible apply w_glb); rfl) | ((with_reducible apply w_calk); rfl) | ((fail_if_success (with_reducible show ∃ k, opC .NotIn _ _ _ = some k ∧ _)); (fail_if_success (with_reducible show ∃ k, opC .In _ _ _ = some k ∧ _)); refine ⟨_, rfl, ?_⟩)))
      refine ⟨fun _ => ?_, fun e => nomatch e⟩
      (repeat (first | ((with_reducible show Wp (evSs _ _ (List.set _ _ _) _) _); simp only [List.set_cons_succ, List.set_cons_zero]) | with_reducible (first | apply s_cons | apply th_nx | apply th_rt | apply th_bk | apply th_ct | apply s_nil | apply s_set | apply s_par2 | apply s_seti | apply s_ife | apply s_ret | apply s_retN | apply s_exp | apply s_brk | apply s_cnt | apply s_pss | apply s_loop | apply rt_rt | apply rt_nx | apply wh_nx | apply wh_ct | apply wh_bk | apply wh_rt | apply w_int | apply w_non | apply w_bl | apply w_str | apply w_tup | apply w_lst | apply w_dct0 | apply es_nil | apply es_cons | apply w_bin | apply w_neg | apply w_cmp | apply w_chn | apply w_and | apply w_or | apply w_not | apply w_ife | apply w_idx | apply w_slc | apply w_rev | apply w_call | apply w_bi | apply w_isi | apply w_mth | apply w_lc | apply o_no | apply o_so | apply ts_nil | apply ts_cons | apply i_val | apply i_rng1 | apply i_rng2 | apply i_enu | apply i_zip | apply o_addI | apply o_subI | apply b_lenT | apply b_lenR | apply b_abs | apply b_intI | apply b_tupT | apply b_listT | apply l_tup | apply l_rol | apply bo_bl) | ((with_reducible apply s_augA); rfl) | ((with_reducible apply s_augS); rfl) | ((with_reducible apply w_var); rfl) | ((with_reducible apply w_glb); rfl) | ((with_reducible apply w_calk); rfl) | ((fail_if_success (with_reducible show ∃ k, opC .NotIn _ _ _ = some k ∧ _)); (fail_if_success (with_reducible show ∃ k, opC .In _ _ _ = some k ∧ _)); refine ⟨_, rfl, ?_⟩)))
      refine ⟨(ret ?_).symm, rfl⟩
      simp [bad1] at e ⊢
      omega
  · rintro e s' ⟨rfl, x1, x2, k, zs, rfl, hz, hb, hk⟩
    refine ⟨fo_none, ?_⟩
    (repeat (first | ((with_reducible show Wp (evSs _ _ (List.set _ _ _) _) _); simp only [List.set_cons_succ, List.set_cons_zero]) | with_reducible (first | apply s_cons | apply th_nx | apply th_rt | apply th_bk | apply th_ct | apply s_nil | apply s_set | apply s_par2 | apply s_seti | apply s_ife | apply s_ret | apply s_retN | apply s_exp | apply s_brk | apply s_cnt | apply s_pss | apply s_loop | apply rt_rt | apply rt_nx | apply wh_nx | apply wh_ct | apply wh_bk | apply wh_rt | apply w_int | apply w_non | apply w_bl | apply w_str | apply w_tup | apply w_lst | apply w_dct0 | apply es_nil | apply es_cons | apply w_bin | apply w_neg | apply w_cmp | apply w_chn | apply w_and | apply w_or | apply w_not | apply w_ife | apply w_idx | apply w_slc | apply w_rev | apply w_call | apply w_bi | apply w_isi | apply w_mth | apply w_lc | apply o_no | apply o_so | apply ts_nil | apply ts_cons | apply i_val | apply i_rng1 | apply i_rng2 | apply i_enu | apply i_zip | apply o_addI | apply o_subI | apply b_lenT | apply b_lenR | apply b_abs | apply b_intI | apply b_tupT | apply b_listT | apply l_tup | apply l_rol | apply bo_bl) | ((with_reducible apply s_augA); rfl) | ((with_reducible apply s_augS); rfl) | ((with_reducible apply w_var); rfl) | ((with_reducible apply w_glb); rfl) | ((with_reducible apply w_calk); rfl) | ((fail_if_success (with_reducible show ∃ k, opC .NotIn _ _ _ = some k ∧ _)); (fail_if_success (with_reducible show ∃ k, opC .In _ _ _ = some k ∧ _)); refine ⟨_, rfl, ?_⟩)))
    refine ⟨?_, rfl⟩
    have : zs = [] := by
      cases zs with
      | nil => rfl
      | cons z zs => cases hz
    subst this
    unfold ewT
    rw [hb]
    rfl
theorem f14 : P.fn[14]? = some ⟨1, 4, b14⟩ := rfl
theorem mem_enum : ∀ {xs : List D} {k : Nat} {x : D}, x ∈ enumD k xs → ∃ (j : Nat) (y : D), x = .tup [.int j, y] ∧ y ∈ xs
  | [], _, _, h => by simp [enumD] at h
  | y :: ys, k, x, h => by
    rcases List.mem_cons.mp (show x ∈ D.tup [.int k, y] :: enumD (k + 1) ys from h) with rfl | h
    · exact ⟨k, y, rfl, List.mem_cons_self⟩
    · obtain ⟨j, z, e, hz⟩ := mem_enum h
      exact ⟨j, z, e, List.mem_cons_of_mem _ hz⟩
theorem fm_bad {R : D → Option D → Prop} (hR : ∀ (k : Nat) y r, R (.tup [.int k, y]) r → r = if bad1 y then some (.int k) else none) : ∀ {xs ys : List D} {k : Nat}, Fm R (enumD k xs) ys → ∃ cs : List Int, ys = cs.map D.int ∧ cs.head? = (fbad k xs).map fun j : Nat => (j : Int)
  | [], _, _, .nil => ⟨[], rfl, rfl⟩
  | x :: xs, _, k, .keep r h => by
    obtain ⟨cs, rfl, h2⟩ := fm_bad hR (k := k + 1) h
    have e := hR k x _ r
    by_cases z : bad1 x = true
    · rw [if_pos z] at e
      cases e
      exact ⟨k :: cs, rfl, by rw [fbad, if_pos z]; rfl⟩
    · rw [if_neg z] at e
      cases e
  | x :: xs, _, k, .skip r h => by
    obtain ⟨cs, rfl, h2⟩ := fm_bad hR (k := k + 1) h
    have e := hR k x _ r
    by_cases z : bad1 x = true
    · rw [if_pos z] at e
      cases e
    · exact ⟨cs, rfl, by rw [fbad, if_neg z, h2]⟩
theorem in01 {s : Sto} {i : Int} : opC .NotIn (.int i) (.tup [.int 0, .int 1]) s = some (bad1 (.int i)) := by
  show some (!(inV (V.int i) [V.int 0, V.int 1])) = _
  unfold inV
  simp only [List.any_cons, List.any_nil, eqV, bad1, Bool.or_false]
  congr 1
  congr 1
  by_cases h0 : i = 0
  · subst h0; rfl
  · by_cases h1 : i = 1
    · subst h1; rfl
    · have : ¬ (0 ≤ i ∧ i ≤ 1) := by omega
      rw [← Bool.decide_and, decide_eq_false this]
      simp
      omega
theorem due_ok {n : Nat} {s : Sto} {d : D} (h : Kt s d) : Wp (run P (n + 2) 14 [d] s) fun r s' => r = ew d ∧ Kx [] s s' := by
  refine run_fn f14 rfl (by decide) ?_
  unfold b14
  show Wp (evSs _ _ [some d, none, none, none] s) _
  (repeat (first | ((with_reducible show Wp (evSs _ _ (List.set _ _ _) _) _); simp only [List.set_cons_succ, List.set_cons_zero]) | with_reducible (first | apply s_cons | apply th_nx | apply th_rt | apply th_bk | apply th_ct | apply s_nil | apply s_set | apply s_par2 | apply s_seti | apply s_ife | apply s_ret | apply s_retN | apply s_exp | apply s_brk | apply s_cnt | apply s_pss | apply s_loop | apply rt_rt | apply rt_nx | apply wh_nx | apply wh_ct | apply wh_bk | apply wh_rt | apply w_int | apply w_non | apply w_bl | apply w_str | apply w_tup | apply w_lst | apply w_dct0 | apply es_nil | apply es_cons | apply w_bin | apply w_neg | apply w_cmp | apply w_chn | apply w_and | apply w_or | apply w_not | apply w_ife | apply w_idx | apply w_slc | apply w_rev | apply w_call | apply w_bi | apply w_isi | apply w_mth | apply w_lc | apply o_no | apply o_so | apply ts_nil | apply ts_cons | apply i_val | apply i_rng1 | apply i_rng2 | apply i_enu | apply i_zip | apply o_addI | apply o_subI | apply b_lenT | apply b_lenR | apply b_abs | apply b_intI | apply b_tupT | apply b_listT | apply l_tup | apply l_rol | apply bo_bl) | ((with_reducible apply s_augA); rfl) | ((with_reducible apply s_augS); rfl) | ((with_reducible apply w_var); rfl) | ((with_reducible apply w_glb); rfl) | ((with_reducible apply w_calk); rfl) | ((fail_if_success (with_reducible show ∃ k, opC .NotIn _ _ _ = some k ∧ _)); (fail_if_success (with_reducible show ∃ k, opC .In _ _ _ = some k ∧ _)); refine ⟨_, rfl, ?_⟩)))
  refine ⟨_, ty_tup h.1, ?_⟩
  (repeat (first | ((with_reducible show Wp (evSs _ _ (List.set _ _ _) _) _); simp only [List.set_cons_succ, List.set_cons_zero]) | with_reducible (first | apply s_cons | apply th_nx | apply th_rt | apply th_bk | apply th_ct | apply s_nil | apply s_set | apply s_par2 | apply s_seti | apply s_ife | apply s_ret | apply s_retN | apply s_exp | apply s_brk | apply s_cnt | apply s_pss | apply s_loop | apply rt_rt | apply rt_nx | apply wh_nx | apply wh_ct | apply wh_bk | apply wh_rt | apply w_int | apply w_non | apply w_bl | apply w_str | apply w_tup | apply w_lst | apply w_dct0 | apply es_nil | apply es_cons | apply w_bin | apply w_neg | apply w_cmp | apply w_chn | apply w_and | apply w_or | apply w_not | apply w_ife | apply w_idx | apply w_slc | apply w_rev | apply w_call | apply w_bi | apply w_isi | apply w_mth | apply w_lc | apply o_no | apply o_so | apply ts_nil | apply ts_cons | apply i_val | apply i_rng1 | apply i_rng2 | apply i_enu | apply i_zip | apply o_addI | apply o_subI | apply b_lenT | apply b_lenR | apply b_abs | apply b_intI | apply b_tupT | apply b_listT | apply l_tup | apply l_rol | apply bo_bl) | ((with_reducible apply s_augA); rfl) | ((with_reducible apply s_augS); rfl) | ((with_reducible apply w_var); rfl) | ((with_reducible apply w_glb); rfl) | ((with_reducible apply w_calk); rfl) | ((fail_if_success (with_reducible show ∃ k, opC .NotIn _ _ _ = some k ∧ _)); (fail_if_success (with_reducible show ∃ k, opC .In _ _ _ = some k ∧ _)); refine ⟨_, rfl, ?_⟩)))
  refine ⟨fun e => ?_, fun e => ?_⟩
  · (repeat (first | ((with_reducible show Wp (evSs _ _ (List.set _ _ _) _) _); simp only [List.set_cons_succ, List.set_cons_zero]) | with_reducible (first | apply s_cons | apply th_nx | apply th_rt | apply th_bk | apply th_ct | apply s_nil | apply s_set | apply s_par2 | apply s_seti | apply s_ife | apply s_ret | apply s_retN | apply s_exp | apply s_brk | apply s_cnt | apply s_pss | apply s_loop | apply rt_rt | apply rt_nx | apply wh_nx | apply wh_ct | apply wh_bk | apply wh_rt | apply w_int | apply w_non | apply w_bl | apply w_str | apply w_tup | apply w_lst | apply w_dct0 | apply es_nil | apply es_cons | apply w_bin | apply w_neg | apply w_cmp | apply w_chn | apply w_and | apply w_or | apply w_not | apply w_ife | apply w_idx | apply w_slc | apply w_rev | apply w_call | apply w_bi | apply w_isi | apply w_mth | apply w_lc | apply o_no | apply o_so | apply ts_nil | apply ts_cons | apply i_val | apply i_rng1 | apply i_rng2 | apply i_enu | apply i_zip | apply o_addI | apply o_subI | apply b_lenT | apply b_lenR | apply b_abs | apply b_intI | apply b_tupT | apply b_listT | apply l_tup | apply l_rol | apply bo_bl) | ((with_reducible apply s_augA); rfl) | ((with_reducible apply s_augS); rfl) | ((with_reducible apply w_var); rfl) | ((with_reducible apply w_glb); rfl) | ((with_reducible apply w_calk); rfl) | ((fail_if_success (with_reducible show ∃ k, opC .NotIn _ _ _ = some k ∧ _)); (fail_if_success (with_reducible show ∃ k, opC .In _ _ _ = some k ∧ _)); refine ⟨_, rfl, ?_⟩)))
    refine ⟨fun _ => ?_, fun e => nomatch e⟩
    (repeat (first | ((with_reducible show Wp (evSs _ _ (List.set _ _ _) _) _); simp only [List.set_cons_succ, List.set_cons_zero]) | with_reducible (first | apply s_cons | apply th_nx | apply th_rt | apply th_bk | apply th_ct | apply s_nil | apply s_set | apply s_par2 | apply s_seti | apply s_ife | apply s_ret | apply s_retN | apply s_exp | apply s_brk | apply s_cnt | apply s_pss | apply s_loop | apply rt_rt | apply rt_nx | apply wh_nx | apply wh_ct | apply wh_bk | apply wh_rt | apply w_int | apply w_non | apply w_bl | apply w_str | apply w_tup | apply w_lst | apply w_dct0 | apply es_nil | apply es_cons | apply w_bin | apply w_neg | apply w_cmp | apply w_chn | apply w_and | apply w_or | apply w_not | apply w_ife | apply w_idx | apply w_slc | apply w_rev | apply w_call | apply w_bi | apply w_isi | apply w_mth | apply w_lc | apply o_no | apply o_so | apply ts_nil | apply ts_cons | apply i_val | apply i_rng1 | apply i_rng2 | apply i_enu | apply i_zip | apply o_addI | apply o_subI | apply b_lenT | apply b_lenR | apply b_abs | apply b_intI | apply b_tupT | apply b_listT | apply l_tup | apply l_rol | apply bo_bl) | ((with_reducible apply s_augA); rfl) | ((with_reducible apply s_augS); rfl) | ((with_reducible apply w_var); rfl) | ((with_reducible apply w_glb); rfl) | ((with_reducible apply w_calk); rfl) | ((fail_if_success (with_reducible show ∃ k, opC .NotIn _ _ _ = some k ∧ _)); (fail_if_success (with_reducible show ∃ k, opC .In _ _ _ = some k ∧ _)); refine ⟨_, rfl, ?_⟩)))
    refine ⟨?_, .refl⟩
    cases d <;> first | rfl | simp [isT] at e
  obtain ⟨xs, rfl⟩ : ∃ xs, d = .tup xs := by
    cases d with
    | tup xs => exact ⟨xs, rfl⟩
    | _ => simp [isT] at e
  (repeat (first | ((with_reducible show Wp (evSs _ _ (List.set _ _ _) _) _); simp only [List.set_cons_succ, List.set_cons_zero]) | with_reducible (first | apply s_cons | apply th_nx | apply th_rt | apply th_bk | apply th_ct | apply s_nil | apply s_set | apply s_par2 | apply s_seti | apply s_ife | apply s_ret | apply s_retN | apply s_exp | apply s_brk | apply s_cnt | apply s_pss | apply s_loop | apply rt_rt | apply rt_nx | apply wh_nx | apply wh_ct | apply wh_bk | apply wh_rt | apply w_int | apply w_non | apply w_bl | apply w_str | apply w_tup | apply w_lst | apply w_dct0 | apply es_nil | apply es_cons | apply w_bin | apply w_neg | apply w_cmp | apply w_chn | apply w_and | apply w_or | apply w_not | apply w_ife | apply w_idx | apply w_slc | apply w_rev | apply w_call | apply w_bi | apply w_isi | apply w_mth | apply w_lc | apply o_no | apply o_so | apply ts_nil | apply ts_cons | apply i_val | apply i_rng1 | apply i_rng2 | apply i_enu | apply i_zip | apply o_addI | apply o_subI | apply b_lenT | apply b_lenR | apply b_abs | apply b_intI | apply b_tupT | apply b_listT | apply l_tup | apply l_rol | apply bo_bl) | ((with_reducible apply s_augA); rfl) | ((with_reducible apply s_augS); rfl) | ((with_reducible apply w_var); rfl) | ((with_reducible apply w_glb); rfl) | ((with_reducible apply w_calk); rfl) | ((fail_if_success (with_reducible show ∃ k, opC .NotIn _ _ _ = some k ∧ _)); (fail_if_success (with_reducible show ∃ k, opC .In _ _ _ = some k ∧ _)); refine ⟨_, rfl, ?_⟩)))
  refine ⟨fun e => ?_, fun e => ?_⟩
  · (repeat (first | ((with_reducible show Wp (evSs _ _ (List.set _ _ _) _) _); simp only [List.set_cons_succ, List.set_cons_zero]) | with_reducible (first | apply s_cons | apply th_nx | apply th_rt | apply th_bk | apply th_ct | apply s_nil | apply s_set | apply s_par2 | apply s_seti | apply s_ife | apply s_ret | apply s_retN | apply s_exp | apply s_brk | apply s_cnt | apply s_pss | apply s_loop | apply rt_rt | apply rt_nx | apply wh_nx | apply wh_ct | apply wh_bk | apply wh_rt | apply w_int | apply w_non | apply w_bl | apply w_str | apply w_tup | apply w_lst | apply w_dct0 | apply es_nil | apply es_cons | apply w_bin | apply w_neg | apply w_cmp | apply w_chn | apply w_and | apply w_or | apply w_not | apply w_ife | apply w_idx | apply w_slc | apply w_rev | apply w_call | apply w_bi | apply w_isi | apply w_mth | apply w_lc | apply o_no | apply o_so | apply ts_nil | apply ts_cons | apply i_val | apply i_rng1 | apply i_rng2 | apply i_enu | apply i_zip | apply o_addI | apply o_subI | apply b_lenT | apply b_lenR | apply b_abs | apply b_intI | apply b_tupT | apply b_listT | apply l_tup | apply l_rol | apply bo_bl) | ((with_reducible apply s_augA); rfl) | ((with_reducible apply s_augS); rfl) | ((with_reducible apply w_var); rfl) | ((with_reducible apply w_glb); rfl) | ((with_reducible apply w_calk); rfl) | ((fail_if_success (with_reducible show ∃ k, opC .NotIn _ _ _ = some k ∧ _)); (fail_if_success (with_reducible show ∃ k, opC .In _ _ _ = some k ∧ _)); refine ⟨_, rfl, ?_⟩)))
    refine ⟨?_, .refl⟩
    have : 300 < xs.length := by have := of_decide_eq_true e; omega
    exact (if_pos this).symm
  have short : ¬ 300 < xs.length := by have := of_decide_eq_false e; omega
  have ee : ew (.tup xs) = ewT xs := if_neg short
  rw [ee]
  (repeat (first | ((with_reducible show Wp (evSs _ _ (List.set _ _ _) _) _); simp only [List.set_cons_succ, List.set_cons_zero]) | with_reducible (first | apply s_cons | apply th_nx | apply th_rt | apply th_bk | apply th_ct | apply s_nil | apply s_set | apply s_par2 | apply s_seti | apply s_ife | apply s_ret | apply s_retN | apply s_exp | apply s_brk | apply s_cnt | apply s_pss | apply s_loop | apply rt_rt | apply rt_nx | apply wh_nx | apply wh_ct | apply wh_bk | apply wh_rt | apply w_int | apply w_non | apply w_bl | apply w_str | apply w_tup | apply w_lst | apply w_dct0 | apply es_nil | apply es_cons | apply w_bin | apply w_neg | apply w_cmp | apply w_chn | apply w_and | apply w_or | apply w_not | apply w_ife | apply w_idx | apply w_slc | apply w_rev | apply w_call | apply w_bi | apply w_isi | apply w_mth | apply w_lc | apply o_no | apply o_so | apply ts_nil | apply ts_cons | apply i_val | apply i_rng1 | apply i_rng2 | apply i_enu | apply i_zip | apply o_addI | apply o_subI | apply b_lenT | apply b_lenR | apply b_abs | apply b_intI | apply b_tupT | apply b_listT | apply l_tup | apply l_rol | apply bo_bl) | ((with_reducible apply s_augA); rfl) | ((with_reducible apply s_augS); rfl) | ((with_reducible apply w_var); rfl) | ((with_reducible apply w_glb); rfl) | ((with_reducible apply w_calk); rfl) | ((fail_if_success (with_reducible show ∃ k, opC .NotIn _ _ _ = some k ∧ _)); (fail_if_success (with_reducible show ∃ k, opC .In _ _ _ = some k ∧ _)); refine ⟨_, rfl, ?_⟩)))
  refine .inl ⟨xs, rfl, ?_⟩
  refine lc_kx (X := []) (fun x r => ∀ (k : Nat) y, x = .tup [.int k, y] → r = if bad1 y then some (.int k) else none) (fun _ => True) (fun _ _ _ _ => trivial) (by simp) trivial ?_ (by rintro n ys e; cases e) ?_ ?_
  · have l : ∀ (k : Nat) (xs : List D), (enumD k xs).length = xs.length := fun k xs => by
      induction xs generalizing k with
      | nil => rfl
      | cons x xs ih => show (enumD (k + 1) xs).length + 1 = _; rw [ih]; rfl
    show (enumD 0 xs).length ≤ _
    rw [l, sizeLine_eq]
    omega
  · rintro x hx s' K lt -
    obtain ⟨j, y, rfl, hy⟩ := mem_enum hx
    have ky : Kd s' y := kd_len K.1 (h.2 xs rfl y hy)
    refine ⟨_, rfl, ?_⟩
    (repeat (first | ((with_reducible show Wp (evSs _ _ (List.set _ _ _) _) _); simp only [List.set_cons_succ, List.set_cons_zero]) | with_reducible (first | apply s_cons | apply th_nx | apply th_rt | apply th_bk | apply th_ct | apply s_nil | apply s_set | apply s_par2 | apply s_seti | apply s_ife | apply s_ret | apply s_retN | apply s_exp | apply s_brk | apply s_cnt | apply s_pss | apply s_loop | apply rt_rt | apply rt_nx | apply wh_nx | apply wh_ct | apply wh_bk | apply wh_rt | apply w_int | apply w_non | apply w_bl | apply w_str | apply w_tup | apply w_lst | apply w_dct0 | apply es_nil | apply es_cons | apply w_bin | apply w_neg | apply w_cmp | apply w_chn | apply w_and | apply w_or | apply w_not | apply w_ife | apply w_idx | apply w_slc | apply w_rev | apply w_call | apply w_bi | apply w_isi | apply w_mth | apply w_lc | apply o_no | apply o_so | apply ts_nil | apply ts_cons | apply i_val | apply i_rng1 | apply i_rng2 | apply i_enu | apply i_zip | apply o_addI | apply o_subI | apply b_lenT | apply b_lenR | apply b_abs | apply b_intI | apply b_tupT | apply b_listT | apply l_tup | apply l_rol | apply bo_bl) | ((with_reducible apply s_augA); rfl) | ((with_reducible apply s_augS); rfl) | ((with_reducible apply w_var); rfl) | ((with_reducible apply w_glb); rfl) | ((with_reducible apply w_calk); rfl) | ((fail_if_success (with_reducible show ∃ k, opC .NotIn _ _ _ = some k ∧ _)); (fail_if_success (with_reducible show ∃ k, opC .In _ _ _ = some k ∧ _)); refine ⟨_, rfl, ?_⟩)))
    refine wp_mono (isint_ok f10 ky) ?_
    rintro r s2 ⟨rfl, rfl⟩
    (repeat (first | ((with_reducible show Wp (evSs _ _ (List.set _ _ _) _) _); simp only [List.set_cons_succ, List.set_cons_zero]) | with_reducible (first | apply s_cons | apply th_nx | apply th_rt | apply th_bk | apply th_ct | apply s_nil | apply s_set | apply s_par2 | apply s_seti | apply s_ife | apply s_ret | apply s_retN | apply s_exp | apply s_brk | apply s_cnt | apply s_pss | apply s_loop | apply rt_rt | apply rt_nx | apply wh_nx | apply wh_ct | apply wh_bk | apply wh_rt | apply w_int | apply w_non | apply w_bl | apply w_str | apply w_tup | apply w_lst | apply w_dct0 | apply es_nil | apply es_cons | apply w_bin | apply w_neg | apply w_cmp | apply w_chn | apply w_and | apply w_or | apply w_not | apply w_ife | apply w_idx | apply w_slc | apply w_rev | apply w_call | apply w_bi | apply w_isi | apply w_mth | apply w_lc | apply o_no | apply o_so | apply ts_nil | apply ts_cons | apply i_val | apply i_rng1 | apply i_rng2 | apply i_enu | apply i_zip | apply o_addI | apply o_subI | apply b_lenT | apply b_lenR | apply b_abs | apply b_intI | apply b_tupT | apply b_listT | apply l_tup | apply l_rol | apply bo_bl) | ((with_reducible apply s_augA); rfl) | ((with_reducible apply s_augS); rfl) | ((with_reducible apply w_var); rfl) | ((with_reducible apply w_glb); rfl) | ((with_reducible apply w_calk); rfl) | ((fail_if_success (with_reducible show ∃ k, opC .NotIn _ _ _ = some k ∧ _)); (fail_if_success (with_reducible show ∃ k, opC .In _ _ _ = some k ∧ _)); refine ⟨_, rfl, ?_⟩)))
    have fin : ∀ b : Bool, bad1 y = b → (b = true → Wp (evE (P.cf (n + 1)) (.var 2) ((([some (D.tup xs), none, none, none].set 3 none).set 2 none).set 2 (some (D.int j)) |>.set 3 (some y)) s2) fun y2 s3 => (∀ (k : Nat) y', D.tup [.int j, y] = .tup [.int k, y'] → some y2 = if bad1 y' then some (.int k) else none) ∧ True ∧ Kx [] s2 s3) ∧ (b = false → (∀ (k : Nat) y', D.tup [.int j, y] = .tup [.int k, y'] → none = if bad1 y' then some (D.int k) else none) ∧ True ∧ Kx [] s2 s2) := by
      intro b hb
      refine ⟨fun e => ?_, fun e => ⟨fun k y' e2 => ?_, trivial, .refl⟩⟩
      · subst e
        refine w_var rfl ⟨fun k y' e2 => ?_, trivial, .refl⟩
        cases e2
        rw [if_pos hb]
      · cases e2
        rw [if_neg (by rw [hb, e]; decide)]
    refine ⟨fun e => ?_, fun e => ?_⟩
    · (repeat (first | ((with_reducible show Wp (evSs _ _ (List.set _ _ _) _) _); simp only [List.set_cons_succ, List.set_cons_zero]) | with_reducible (first | apply s_cons | apply th_nx | apply th_rt | apply th_bk | apply th_ct | apply s_nil | apply s_set | apply s_par2 | apply s_seti | apply s_ife | apply s_ret | apply s_retN | apply s_exp | apply s_brk | apply s_cnt | apply s_pss | apply s_loop | apply rt_rt | apply rt_nx | apply wh_nx | apply wh_ct | apply wh_bk | apply wh_rt | apply w_int | apply w_non | apply w_bl | apply w_str | apply w_tup | apply w_lst | apply w_dct0 | apply es_nil | apply es_cons | apply w_bin | apply w_neg | apply w_cmp | apply w_chn | apply w_and | apply w_or | apply w_not | apply w_ife | apply w_idx | apply w_slc | apply w_rev | apply w_call | apply w_bi | apply w_isi | apply w_mth | apply w_lc | apply o_no | apply o_so | apply ts_nil | apply ts_cons | apply i_val | apply i_rng1 | apply i_rng2 | apply i_enu | apply i_zip | apply o_addI | apply o_subI | apply b_lenT | apply b_lenR | apply b_abs | apply b_intI | apply b_tupT | apply b_listT | apply l_tup | apply l_rol | apply bo_bl) | ((with_reducible apply s_augA); rfl) | ((with_reducible apply s_augS); rfl) | ((with_reducible apply w_var); rfl) | ((with_reducible apply w_glb); rfl) | ((with_reducible apply w_calk); rfl) | ((fail_if_success (with_reducible show ∃ k, opC .NotIn _ _ _ = some k ∧ _)); (fail_if_success (with_reducible show ∃ k, opC .In _ _ _ = some k ∧ _)); refine ⟨_, rfl, ?_⟩)))
      have hb : bad1 y = true := by cases y <;> first | rfl | simp [isW] at e
      refine ⟨fun _ => ?_, fun e => nomatch e⟩
      (repeat (first | ((with_reducible show Wp (evSs _ _ (List.set _ _ _) _) _); simp only [List.set_cons_succ, List.set_cons_zero]) | with_reducible (first | apply s_cons | apply th_nx | apply th_rt | apply th_bk | apply th_ct | apply s_nil | apply s_set | apply s_par2 | apply s_seti | apply s_ife | apply s_ret | apply s_retN | apply s_exp | apply s_brk | apply s_cnt | apply s_pss | apply s_loop | apply rt_rt | apply rt_nx | apply wh_nx | apply wh_ct | apply wh_bk | apply wh_rt | apply w_int | apply w_non | apply w_bl | apply w_str | apply w_tup | apply w_lst | apply w_dct0 | apply es_nil | apply es_cons | apply w_bin | apply w_neg | apply w_cmp | apply w_chn | apply w_and | apply w_or | apply w_not | apply w_ife | apply w_idx | apply w_slc | apply w_rev | apply w_call | apply w_bi | apply w_isi | apply w_mth | apply w_lc | apply o_no | apply o_so | apply ts_nil | apply ts_cons | apply i_val | apply i_rng1 | apply i_rng2 | apply i_enu | apply i_zip | apply o_addI | apply o_subI | apply b_lenT | apply b_lenR | apply b_abs | apply b_intI | apply b_tupT | apply b_listT | apply l_tup | apply l_rol | apply bo_bl) | ((with_reducible apply s_augA); rfl) | ((with_reducible apply s_augS); rfl) | ((with_reducible apply w_var); rfl) | ((with_reducible apply w_glb); rfl) | ((with_reducible apply w_calk); rfl) | ((fail_if_success (with_reducible show ∃ k, opC .NotIn _ _ _ = some k ∧ _)); (fail_if_success (with_reducible show ∃ k, opC .In _ _ _ = some k ∧ _)); refine ⟨_, rfl, ?_⟩)))
      exact ⟨fun _ => (fin true hb).1 rfl, fun z => nomatch z⟩
    · obtain ⟨i, rfl⟩ : ∃ i, y = .int i := by
        cases y with
        | int i => exact ⟨i, rfl⟩
        | _ => simp [isW] at e
      (repeat (first | ((with_reducible show Wp (evSs _ _ (List.set _ _ _) _) _); simp only [List.set_cons_succ, List.set_cons_zero]) | with_reducible (first | apply s_cons | apply th_nx | apply th_rt | apply th_bk | apply th_ct | apply s_nil | apply s_set | apply s_par2 | apply s_seti | apply s_ife | apply s_ret | apply s_retN | apply s_exp | apply s_brk | apply s_cnt | apply s_pss | apply s_loop | apply rt_rt | apply rt_nx | apply wh_nx | apply wh_ct | apply wh_bk | apply wh_rt | apply w_int | apply w_non | apply w_bl | apply w_str | apply w_tup | apply w_lst | apply w_dct0 | apply es_nil | apply es_cons | apply w_bin | apply w_neg | apply w_cmp | apply w_chn | apply w_and | apply w_or | apply w_not | apply w_ife | apply w_idx | apply w_slc | apply w_rev | apply w_call | apply w_bi | apply w_isi | apply w_mth | apply w_lc | apply o_no | apply o_so | apply ts_nil | apply ts_cons | apply i_val | apply i_rng1 | apply i_rng2 | apply i_enu | apply i_zip | apply o_addI | apply o_subI | apply b_lenT | apply b_lenR | apply b_abs | apply b_intI | apply b_tupT | apply b_listT | apply l_tup | apply l_rol | apply bo_bl) | ((with_reducible apply s_augA); rfl) | ((with_reducible apply s_augS); rfl) | ((with_reducible apply w_var); rfl) | ((with_reducible apply w_glb); rfl) | ((with_reducible apply w_calk); rfl) | ((fail_if_success (with_reducible show ∃ k, opC .NotIn _ _ _ = some k ∧ _)); (fail_if_success (with_reducible show ∃ k, opC .In _ _ _ = some k ∧ _)); refine ⟨_, rfl, ?_⟩)))
      refine ⟨_, in01, ?_⟩
      (repeat (first | ((with_reducible show Wp (evSs _ _ (List.set _ _ _) _) _); simp only [List.set_cons_succ, List.set_cons_zero]) | with_reducible (first | apply s_cons | apply th_nx | apply th_rt | apply th_bk | apply th_ct | apply s_nil | apply s_set | apply s_par2 | apply s_seti | apply s_ife | apply s_ret | apply s_retN | apply s_exp | apply s_brk | apply s_cnt | apply s_pss | apply s_loop | apply rt_rt | apply rt_nx | apply wh_nx | apply wh_ct | apply wh_bk | apply wh_rt | apply w_int | apply w_non | apply w_bl | apply w_str | apply w_tup | apply w_lst | apply w_dct0 | apply es_nil | apply es_cons | apply w_bin | apply w_neg | apply w_cmp | apply w_chn | apply w_and | apply w_or | apply w_not | apply w_ife | apply w_idx | apply w_slc | apply w_rev | apply w_call | apply w_bi | apply w_isi | apply w_mth | apply w_lc | apply o_no | apply o_so | apply ts_nil | apply ts_cons | apply i_val | apply i_rng1 | apply i_rng2 | apply i_enu | apply i_zip | apply o_addI | apply o_subI | apply b_lenT | apply b_lenR | apply b_abs | apply b_intI | apply b_tupT | apply b_listT | apply l_tup | apply l_rol | apply bo_bl) | ((with_reducible apply s_augA); rfl) | ((with_reducible apply s_augS); rfl) | ((with_reducible apply w_var); rfl) | ((with_reducible apply w_glb); rfl) | ((with_reducible apply w_calk); rfl) | ((fail_if_success (with_reducible show ∃ k, opC .NotIn _ _ _ = some k ∧ _)); (fail_if_success (with_reducible show ∃ k, opC .In _ _ _ = some k ∧ _)); refine ⟨_, rfl, ?_⟩)))
      refine ⟨fun e => ?_, fun e => ?_⟩
      · (repeat (first | ((with_reducible show Wp (evSs _ _ (List.set _ _ _) _) _); simp only [List.set_cons_succ, List.set_cons_zero]) | with_reducible (first | apply s_cons | apply th_nx | apply th_rt | apply th_bk | apply th_ct | apply s_nil | apply s_set | apply s_par2 | apply s_seti | apply s_ife | apply s_ret | apply s_retN | apply s_exp | apply s_brk | apply s_cnt | apply s_pss | apply s_loop | apply rt_rt | apply rt_nx | apply wh_nx | apply wh_ct | apply wh_bk | apply wh_rt | apply w_int | apply w_non | apply w_bl | apply w_str | apply w_tup | apply w_lst | apply w_dct0 | apply es_nil | apply es_cons | apply w_bin | apply w_neg | apply w_cmp | apply w_chn | apply w_and | apply w_or | apply w_not | apply w_ife | apply w_idx | apply w_slc | apply w_rev | apply w_call | apply w_bi | apply w_isi | apply w_mth | apply w_lc | apply o_no | apply o_so | apply ts_nil | apply ts_cons | apply i_val | apply i_rng1 | apply i_rng2 | apply i_enu | apply i_zip | apply o_addI | apply o_subI | apply b_lenT | apply b_lenR | apply b_abs | apply b_intI | apply b_tupT | apply b_listT | apply l_tup | apply l_rol | apply bo_bl) | ((with_reducible apply s_augA); rfl) | ((with_reducible apply s_augS); rfl) | ((with_reducible apply w_var); rfl) | ((with_reducible apply w_glb); rfl) | ((with_reducible apply w_calk); rfl) | ((fail_if_success (with_reducible show ∃ k, opC .NotIn _ _ _ = some k ∧ _)); (fail_if_success (with_reducible show ∃ k, opC .In _ _ _ = some k ∧ _)); refine ⟨_, rfl, ?_⟩)))
        exact ⟨fun _ => (fin true e).1 rfl, fun z => nomatch z⟩
      · exact ⟨fun z => (nomatch z), fun _ => (fin false e).2 rfl⟩
  rintro ys s1 e1 fm - K lt
  obtain ⟨cs, rfl, hd⟩ := fm_bad (fun k y r h => h k y rfl) fm
  (repeat (first | ((with_reducible show Wp (evSs _ _ (List.set _ _ _) _) _); simp only [List.set_cons_succ, List.set_cons_zero]) | with_reducible (first | apply s_cons | apply th_nx | apply th_rt | apply th_bk | apply th_ct | apply s_nil | apply s_set | apply s_par2 | apply s_seti | apply s_ife | apply s_ret | apply s_retN | apply s_exp | apply s_brk | apply s_cnt | apply s_pss | apply s_loop | apply rt_rt | apply rt_nx | apply wh_nx | apply wh_ct | apply wh_bk | apply wh_rt | apply w_int | apply w_non | apply w_bl | apply w_str | apply w_tup | apply w_lst | apply w_dct0 | apply es_nil | apply es_cons | apply w_bin | apply w_neg | apply w_cmp | apply w_chn | apply w_and | apply w_or | apply w_not | apply w_ife | apply w_idx | apply w_slc | apply w_rev | apply w_call | apply w_bi | apply w_isi | apply w_mth | apply w_lc | apply o_no | apply o_so | apply ts_nil | apply ts_cons | apply i_val | apply i_rng1 | apply i_rng2 | apply i_enu | apply i_zip | apply o_addI | apply o_subI | apply b_lenT | apply b_lenR | apply b_abs | apply b_intI | apply b_tupT | apply b_listT | apply l_tup | apply l_rol | apply bo_bl) | ((with_reducible apply s_augA); rfl) | ((with_reducible apply s_augS); rfl) | ((with_reducible apply w_var); rfl) | ((with_reducible apply w_glb); rfl) | ((with_reducible apply w_calk); rfl) | ((fail_if_success (with_reducible show ∃ k, opC .NotIn _ _ _ = some k ∧ _)); (fail_if_success (with_reducible show ∃ k, opC .In _ _ _ = some k ∧ _)); refine ⟨_, rfl, ?_⟩)))
  refine ⟨_, c_ne (eq_ints_nil (push_old e1) push_at), ?_⟩
  (repeat (first | ((with_reducible show Wp (evSs _ _ (List.set _ _ _) _) _); simp only [List.set_cons_succ, List.set_cons_zero]) | with_reducible (first | apply s_cons | apply th_nx | apply th_rt | apply th_bk | apply th_ct | apply s_nil | apply s_set | apply s_par2 | apply s_seti | apply s_ife | apply s_ret | apply s_retN | apply s_exp | apply s_brk | apply s_cnt | apply s_pss | apply s_loop | apply rt_rt | apply rt_nx | apply wh_nx | apply wh_ct | apply wh_bk | apply wh_rt | apply w_int | apply w_non | apply w_bl | apply w_str | apply w_tup | apply w_lst | apply w_dct0 | apply es_nil | apply es_cons | apply w_bin | apply w_neg | apply w_cmp | apply w_chn | apply w_and | apply w_or | apply w_not | apply w_ife | apply w_idx | apply w_slc | apply w_rev | apply w_call | apply w_bi | apply w_isi | apply w_mth | apply w_lc | apply o_no | apply o_so | apply ts_nil | apply ts_cons | apply i_val | apply i_rng1 | apply i_rng2 | apply i_enu | apply i_zip | apply o_addI | apply o_subI | apply b_lenT | apply b_lenR | apply b_abs | apply b_intI | apply b_tupT | apply b_listT | apply l_tup | apply l_rol | apply bo_bl) | ((with_reducible apply s_augA); rfl) | ((with_reducible apply s_augS); rfl) | ((with_reducible apply w_var); rfl) | ((with_reducible apply w_glb); rfl) | ((with_reducible apply w_calk); rfl) | ((fail_if_success (with_reducible show ∃ k, opC .NotIn _ _ _ = some k ∧ _)); (fail_if_success (with_reducible show ∃ k, opC .In _ _ _ = some k ∧ _)); refine ⟨_, rfl, ?_⟩)))
  refine ⟨fun e => ?_, fun e => ?_⟩
  · cases cs with
    | nil => simp at e
    | cons c cs =>
      (repeat (first | ((with_reducible show Wp (evSs _ _ (List.set _ _ _) _) _); simp only [List.set_cons_succ, List.set_cons_zero]) | with_reducible (first | apply s_cons | apply th_nx | apply th_rt | apply th_bk | apply th_ct | apply s_nil | apply s_set | apply s_par2 | apply s_seti | apply s_ife | apply s_ret | apply s_retN | apply s_exp | apply s_brk | apply s_cnt | apply s_pss | apply s_loop | apply rt_rt | apply rt_nx | apply wh_nx | apply wh_ct | apply wh_bk | apply wh_rt | apply w_int | apply w_non | apply w_bl | apply w_str | apply w_tup | apply w_lst | apply w_dct0 | apply es_nil | apply es_cons | apply w_bin | apply w_neg | apply w_cmp | apply w_chn | apply w_and | apply w_or | apply w_not | apply w_ife | apply w_idx | apply w_slc | apply w_rev | apply w_call | apply w_bi | apply w_isi | apply w_mth | apply w_lc | apply o_no | apply o_so | apply ts_nil | apply ts_cons | apply i_val | apply i_rng1 | apply i_rng2 | apply i_enu | apply i_zip | apply o_addI | apply o_subI | apply b_lenT | apply b_lenR | apply b_abs | apply b_intI | apply b_tupT | apply b_listT | apply l_tup | apply l_rol | apply bo_bl) | ((with_reducible apply s_augA); rfl) | ((with_reducible apply s_augS); rfl) | ((with_reducible apply w_var); rfl) | ((with_reducible apply w_glb); rfl) | ((with_reducible apply w_calk); rfl) | ((fail_if_success (with_reducible show ∃ k, opC .NotIn _ _ _ = some k ∧ _)); (fail_if_success (with_reducible show ∃ k, opC .In _ _ _ = some k ∧ _)); refine ⟨_, rfl, ?_⟩)))
      refine i_loc (push_old e1) (show atI (D.int c :: cs.map D.int) ((0 : Nat) : Int) = some (.int c) from atI_nat rfl) ?_
      (repeat (first | ((with_reducible show Wp (evSs _ _ (List.set _ _ _) _) _); simp only [List.set_cons_succ, List.set_cons_zero]) | with_reducible (first | apply s_cons | apply th_nx | apply th_rt | apply th_bk | apply th_ct | apply s_nil | apply s_set | apply s_par2 | apply s_seti | apply s_ife | apply s_ret | apply s_retN | apply s_exp | apply s_brk | apply s_cnt | apply s_pss | apply s_loop | apply rt_rt | apply rt_nx | apply wh_nx | apply wh_ct | apply wh_bk | apply wh_rt | apply w_int | apply w_non | apply w_bl | apply w_str | apply w_tup | apply w_lst | apply w_dct0 | apply es_nil | apply es_cons | apply w_bin | apply w_neg | apply w_cmp | apply w_chn | apply w_and | apply w_or | apply w_not | apply w_ife | apply w_idx | apply w_slc | apply w_rev | apply w_call | apply w_bi | apply w_isi | apply w_mth | apply w_lc | apply o_no | apply o_so | apply ts_nil | apply ts_cons | apply i_val | apply i_rng1 | apply i_rng2 | apply i_enu | apply i_zip | apply o_addI | apply o_subI | apply b_lenT | apply b_lenR | apply b_abs | apply b_intI | apply b_tupT | apply b_listT | apply l_tup | apply l_rol | apply bo_bl) | ((with_reducible apply s_augA); rfl) | ((with_reducible apply s_augS); rfl) | ((with_reducible apply w_var); rfl) | ((with_reducible apply w_glb); rfl) | ((with_reducible apply w_calk); rfl) | ((fail_if_success (with_reducible show ∃ k, opC .NotIn _ _ _ = some k ∧ _)); (fail_if_success (with_reducible show ∃ k, opC .In _ _ _ = some k ∧ _)); refine ⟨_, rfl, ?_⟩)))
      refine ⟨?_, K.push _⟩
      unfold ewT
      cases hb : fbad 0 xs with
      | none => rw [hb] at hd; cases hd
      | some j => rw [hb] at hd; cases hd; rfl
  · cases cs with
    | nil =>
      (repeat (first | ((with_reducible show Wp (evSs _ _ (List.set _ _ _) _) _); simp only [List.set_cons_succ, List.set_cons_zero]) | with_reducible (first | apply s_cons | apply th_nx | apply th_rt | apply th_bk | apply th_ct | apply s_nil | apply s_set | apply s_par2 | apply s_seti | apply s_ife | apply s_ret | apply s_retN | apply s_exp | apply s_brk | apply s_cnt | apply s_pss | apply s_loop | apply rt_rt | apply rt_nx | apply wh_nx | apply wh_ct | apply wh_bk | apply wh_rt | apply w_int | apply w_non | apply w_bl | apply w_str | apply w_tup | apply w_lst | apply w_dct0 | apply es_nil | apply es_cons | apply w_bin | apply w_neg | apply w_cmp | apply w_chn | apply w_and | apply w_or | apply w_not | apply w_ife | apply w_idx | apply w_slc | apply w_rev | apply w_call | apply w_bi | apply w_isi | apply w_mth | apply w_lc | apply o_no | apply o_so | apply ts_nil | apply ts_cons | apply i_val | apply i_rng1 | apply i_rng2 | apply i_enu | apply i_zip | apply o_addI | apply o_subI | apply b_lenT | apply b_lenR | apply b_abs | apply b_intI | apply b_tupT | apply b_listT | apply l_tup | apply l_rol | apply bo_bl) | ((with_reducible apply s_augA); rfl) | ((with_reducible apply s_augS); rfl) | ((with_reducible apply w_var); rfl) | ((with_reducible apply w_glb); rfl) | ((with_reducible apply w_calk); rfl) | ((fail_if_success (with_reducible show ∃ k, opC .NotIn _ _ _ = some k ∧ _)); (fail_if_success (with_reducible show ∃ k, opC .In _ _ _ = some k ∧ _)); refine ⟨_, rfl, ?_⟩)))
      refine ⟨?_, K.push _⟩
      unfold ewT
      cases hb : fbad 0 xs with
      | none => rfl
      | some j => rw [hb] at hd; cases hd
    | cons c cs => simp at e
end K01
set_option Elab.async false
set_option linter.all false
set_option maxRecDepth 100000
set_option maxHeartbeats 4000000
namespace K01
open PySem PySem.Spec PyProof.Rows L2 Iv
theorem digs_go {f j : Nat} (h : 1 < j) : lsb (f + 1) j = ((j % 2 : Nat) : Int) :: lsb f (j / 2) := by rw [lsb, if_neg (by omega)]
theorem digs_end {f j : Nat} (h : j ≤ 1) : lsb f j = [] := by
  cases f with
  | zero => rfl
  | succ f => rw [lsb, if_pos h]
theorem f5 : P.fn[5]? = some ⟨1, 3, b5⟩ := rfl
theorem f15 : P.fn[15]? = some ⟨1, 3, b15⟩ := rfl
theorem at_ok {n : Nat} {s : Sto} {k : Nat} (hk : k + 1 < 2 ^ 200) : Wp (run P (n + 1) 5 [.int k] s) fun r s' => r = .tup ((digs (k + 1)).map D.int) ∧ Kx [] s s' := by
  refine run_fn f5 rfl (by decide) ?_
  unfold b5
  show Wp (evSs _ _ [some (.int k), none, none] s) _
  (repeat (first | ((with_reducible show Wp (evSs _ _ (List.set _ _ _) _) _); simp only [List.set_cons_succ, List.set_cons_zero]) | with_reducible (first | apply s_cons | apply th_nx | apply th_rt | apply th_bk | apply th_ct | apply s_nil | apply s_set | apply s_par2 | apply s_seti | apply s_ife | apply s_ret | apply s_retN | apply s_exp | apply s_brk | apply s_cnt | apply s_pss | apply s_loop | apply rt_rt | apply rt_nx | apply wh_nx | apply wh_ct | apply wh_bk | apply wh_rt | apply w_int | apply w_non | apply w_bl | apply w_str | apply w_tup | apply w_lst | apply w_dct0 | apply es_nil | apply es_cons | apply w_bin | apply w_neg | apply w_cmp | apply w_chn | apply w_and | apply w_or | apply w_not | apply w_ife | apply w_idx | apply w_slc | apply w_rev | apply w_call | apply w_bi | apply w_isi | apply w_mth | apply w_lc | apply o_no | apply o_so | apply ts_nil | apply ts_cons | apply i_val | apply i_rng1 | apply i_rng2 | apply i_enu | apply i_zip | apply o_addI | apply o_subI | apply b_lenT | apply b_lenR | apply b_abs | apply b_intI | apply b_tupT | apply b_listT | apply l_tup | apply l_rol | apply bo_bl) | ((with_reducible apply s_augA); rfl) | ((with_reducible apply s_augS); rfl) | ((with_reducible apply w_var); rfl) | ((with_reducible apply w_glb); rfl) | ((with_reducible apply w_calk); rfl) | ((fail_if_success (with_reducible show ∃ k, opC .NotIn _ _ _ = some k ∧ _)); (fail_if_success (with_reducible show ∃ k, opC .In _ _ _ = some k ∧ _)); refine ⟨_, rfl, ?_⟩)))
  refine ⟨by simp, ?_⟩
  (repeat (first | ((with_reducible show Wp (evSs _ _ (List.set _ _ _) _) _); simp only [List.set_cons_succ, List.set_cons_zero]) | with_reducible (first | apply s_cons | apply th_nx | apply th_rt | apply th_bk | apply th_ct | apply s_nil | apply s_set | apply s_par2 | apply s_seti | apply s_ife | apply s_ret | apply s_retN | apply s_exp | apply s_brk | apply s_cnt | apply s_pss | apply s_loop | apply rt_rt | apply rt_nx | apply wh_nx | apply wh_ct | apply wh_bk | apply wh_rt | apply w_int | apply w_non | apply w_bl | apply w_str | apply w_tup | apply w_lst | apply w_dct0 | apply es_nil | apply es_cons | apply w_bin | apply w_neg | apply w_cmp | apply w_chn | apply w_and | apply w_or | apply w_not | apply w_ife | apply w_idx | apply w_slc | apply w_rev | apply w_call | apply w_bi | apply w_isi | apply w_mth | apply w_lc | apply o_no | apply o_so | apply ts_nil | apply ts_cons | apply i_val | apply i_rng1 | apply i_rng2 | apply i_enu | apply i_zip | apply o_addI | apply o_subI | apply b_lenT | apply b_lenR | apply b_abs | apply b_intI | apply b_tupT | apply b_listT | apply l_tup | apply l_rol | apply bo_bl) | ((with_reducible apply s_augA); rfl) | ((with_reducible apply s_augS); rfl) | ((with_reducible apply w_var); rfl) | ((with_reducible apply w_glb); rfl) | ((with_reducible apply w_calk); rfl) | ((fail_if_success (with_reducible show ∃ k, opC .NotIn _ _ _ = some k ∧ _)); (fail_if_success (with_reducible show ∃ k, opC .In _ _ _ = some k ∧ _)); refine ⟨_, rfl, ?_⟩)))
  refine s_whl (fun m e s' => ∃ (j : Nat) (acc : List Int), e = [some (.int k), some (.loc s.length), some (.int j)] ∧ s'[s.length]? = some (.lst (acc.map D.int)) ∧ Kx [] s s' ∧ j < 2 ^ m ∧ m ≤ 200 ∧ acc.length + m = 200 ∧ acc ++ lsb m j = lsb 200 (k + 1)) 200 ⟨k + 1, [], rfl, push_at, Kx.refl.push _, hk, by decide, rfl, rfl⟩ (show 200 < 1000000000 by decide) ?_
  rintro m e s' ⟨j, acc, rfl, ha, K, hj, hm, hl, hd⟩
  (repeat (first | ((with_reducible show Wp (evSs _ _ (List.set _ _ _) _) _); simp only [List.set_cons_succ, List.set_cons_zero]) | with_reducible (first | apply s_cons | apply th_nx | apply th_rt | apply th_bk | apply th_ct | apply s_nil | apply s_set | apply s_par2 | apply s_seti | apply s_ife | apply s_ret | apply s_retN | apply s_exp | apply s_brk | apply s_cnt | apply s_pss | apply s_loop | apply rt_rt | apply rt_nx | apply wh_nx | apply wh_ct | apply wh_bk | apply wh_rt | apply w_int | apply w_non | apply w_bl | apply w_str | apply w_tup | apply w_lst | apply w_dct0 | apply es_nil | apply es_cons | apply w_bin | apply w_neg | apply w_cmp | apply w_chn | apply w_and | apply w_or | apply w_not | apply w_ife | apply w_idx | apply w_slc | apply w_rev | apply w_call | apply w_bi | apply w_isi | apply w_mth | apply w_lc | apply o_no | apply o_so | apply ts_nil | apply ts_cons | apply i_val | apply i_rng1 | apply i_rng2 | apply i_enu | apply i_zip | apply o_addI | apply o_subI | apply b_lenT | apply b_lenR | apply b_abs | apply b_intI | apply b_tupT | apply b_listT | apply l_tup | apply l_rol | apply bo_bl) | ((with_reducible apply s_augA); rfl) | ((with_reducible apply s_augS); rfl) | ((with_reducible apply w_var); rfl) | ((with_reducible apply w_glb); rfl) | ((with_reducible apply w_calk); rfl) | ((fail_if_success (with_reducible show ∃ k, opC .NotIn _ _ _ = some k ∧ _)); (fail_if_success (with_reducible show ∃ k, opC .In _ _ _ = some k ∧ _)); refine ⟨_, rfl, ?_⟩)))
  refine ⟨fun e => ?_, fun e => ?_⟩
  · have j1 : 1 < j := by have := of_decide_eq_true e; omega
    obtain ⟨m, rfl⟩ : ∃ m', m = m' + 1 := ⟨m - 1, by
      cases m with
      | zero => simp at hj; omega
      | succ m => rfl⟩
    (repeat (first | ((with_reducible show Wp (evSs _ _ (List.set _ _ _) _) _); simp only [List.set_cons_succ, List.set_cons_zero]) | with_reducible (first | apply s_cons | apply th_nx | apply th_rt | apply th_bk | apply th_ct | apply s_nil | apply s_set | apply s_par2 | apply s_seti | apply s_ife | apply s_ret | apply s_retN | apply s_exp | apply s_brk | apply s_cnt | apply s_pss | apply s_loop | apply rt_rt | apply rt_nx | apply wh_nx | apply wh_ct | apply wh_bk | apply wh_rt | apply w_int | apply w_non | apply w_bl | apply w_str | apply w_tup | apply w_lst | apply w_dct0 | apply es_nil | apply es_cons | apply w_bin | apply w_neg | apply w_cmp | apply w_chn | apply w_and | apply w_or | apply w_not | apply w_ife | apply w_idx | apply w_slc | apply w_rev | apply w_call | apply w_bi | apply w_isi | apply w_mth | apply w_lc | apply o_no | apply o_so | apply ts_nil | apply ts_cons | apply i_val | apply i_rng1 | apply i_rng2 | apply i_enu | apply i_zip | apply o_addI | apply o_subI | apply b_lenT | apply b_lenR | apply b_abs | apply b_intI | apply b_tupT | apply b_listT | apply l_tup | apply l_rol | apply bo_bl) | ((with_reducible apply s_augA); rfl) | ((with_reducible apply s_augS); rfl) | ((with_reducible apply w_var); rfl) | ((with_reducible apply w_glb); rfl) | ((with_reducible apply w_calk); rfl) | ((fail_if_success (with_reducible show ∃ k, opC .NotIn _ _ _ = some k ∧ _)); (fail_if_success (with_reducible show ∃ k, opC .In _ _ _ = some k ∧ _)); refine ⟨_, rfl, ?_⟩)))
    refine ⟨rcv_loc (by decide) ha, ?_⟩
    (repeat (first | ((with_reducible show Wp (evSs _ _ (List.set _ _ _) _) _); simp only [List.set_cons_succ, List.set_cons_zero]) | with_reducible (first | apply s_cons | apply th_nx | apply th_rt | apply th_bk | apply th_ct | apply s_nil | apply s_set | apply s_par2 | apply s_seti | apply s_ife | apply s_ret | apply s_retN | apply s_exp | apply s_brk | apply s_cnt | apply s_pss | apply s_loop | apply rt_rt | apply rt_nx | apply wh_nx | apply wh_ct | apply wh_bk | apply wh_rt | apply w_int | apply w_non | apply w_bl | apply w_str | apply w_tup | apply w_lst | apply w_dct0 | apply es_nil | apply es_cons | apply w_bin | apply w_neg | apply w_cmp | apply w_chn | apply w_and | apply w_or | apply w_not | apply w_ife | apply w_idx | apply w_slc | apply w_rev | apply w_call | apply w_bi | apply w_isi | apply w_mth | apply w_lc | apply o_no | apply o_so | apply ts_nil | apply ts_cons | apply i_val | apply i_rng1 | apply i_rng2 | apply i_enu | apply i_zip | apply o_addI | apply o_subI | apply b_lenT | apply b_lenR | apply b_abs | apply b_intI | apply b_tupT | apply b_listT | apply l_tup | apply l_rol | apply bo_bl) | ((with_reducible apply s_augA); rfl) | ((with_reducible apply s_augS); rfl) | ((with_reducible apply w_var); rfl) | ((with_reducible apply w_glb); rfl) | ((with_reducible apply w_calk); rfl) | ((fail_if_success (with_reducible show ∃ k, opC .NotIn _ _ _ = some k ∧ _)); (fail_if_success (with_reducible show ∃ k, opC .In _ _ _ = some k ∧ _)); refine ⟨_, rfl, ?_⟩)))
    refine o_mod (by decide) ?_
    (repeat (first | ((with_reducible show Wp (evSs _ _ (List.set _ _ _) _) _); simp only [List.set_cons_succ, List.set_cons_zero]) | with_reducible (first | apply s_cons | apply th_nx | apply th_rt | apply th_bk | apply th_ct | apply s_nil | apply s_set | apply s_par2 | apply s_seti | apply s_ife | apply s_ret | apply s_retN | apply s_exp | apply s_brk | apply s_cnt | apply s_pss | apply s_loop | apply rt_rt | apply rt_nx | apply wh_nx | apply wh_ct | apply wh_bk | apply wh_rt | apply w_int | apply w_non | apply w_bl | apply w_str | apply w_tup | apply w_lst | apply w_dct0 | apply es_nil | apply es_cons | apply w_bin | apply w_neg | apply w_cmp | apply w_chn | apply w_and | apply w_or | apply w_not | apply w_ife | apply w_idx | apply w_slc | apply w_rev | apply w_call | apply w_bi | apply w_isi | apply w_mth | apply w_lc | apply o_no | apply o_so | apply ts_nil | apply ts_cons | apply i_val | apply i_rng1 | apply i_rng2 | apply i_enu | apply i_zip | apply o_addI | apply o_subI | apply b_lenT | apply b_lenR | apply b_abs | apply b_intI | apply b_tupT | apply b_listT | apply l_tup | apply l_rol | apply bo_bl) | ((with_reducible apply s_augA); rfl) | ((with_reducible apply s_augS); rfl) | ((with_reducible apply w_var); rfl) | ((with_reducible apply w_glb); rfl) | ((with_reducible apply w_calk); rfl) | ((fail_if_success (with_reducible show ∃ k, opC .NotIn _ _ _ = some k ∧ _)); (fail_if_success (with_reducible show ∃ k, opC .In _ _ _ = some k ∧ _)); refine ⟨_, rfl, ?_⟩)))
    refine m_append ha (by rw [List.length_map, sizeLine_eq]; omega) ?_
    (repeat (first | ((with_reducible show Wp (evSs _ _ (List.set _ _ _) _) _); simp only [List.set_cons_succ, List.set_cons_zero]) | with_reducible (first | apply s_cons | apply th_nx | apply th_rt | apply th_bk | apply th_ct | apply s_nil | apply s_set | apply s_par2 | apply s_seti | apply s_ife | apply s_ret | apply s_retN | apply s_exp | apply s_brk | apply s_cnt | apply s_pss | apply s_loop | apply rt_rt | apply rt_nx | apply wh_nx | apply wh_ct | apply wh_bk | apply wh_rt | apply w_int | apply w_non | apply w_bl | apply w_str | apply w_tup | apply w_lst | apply w_dct0 | apply es_nil | apply es_cons | apply w_bin | apply w_neg | apply w_cmp | apply w_chn | apply w_and | apply w_or | apply w_not | apply w_ife | apply w_idx | apply w_slc | apply w_rev | apply w_call | apply w_bi | apply w_isi | apply w_mth | apply w_lc | apply o_no | apply o_so | apply ts_nil | apply ts_cons | apply i_val | apply i_rng1 | apply i_rng2 | apply i_enu | apply i_zip | apply o_addI | apply o_subI | apply b_lenT | apply b_lenR | apply b_abs | apply b_intI | apply b_tupT | apply b_listT | apply l_tup | apply l_rol | apply bo_bl) | ((with_reducible apply s_augA); rfl) | ((with_reducible apply s_augS); rfl) | ((with_reducible apply w_var); rfl) | ((with_reducible apply w_glb); rfl) | ((with_reducible apply w_calk); rfl) | ((fail_if_success (with_reducible show ∃ k, opC .NotIn _ _ _ = some k ∧ _)); (fail_if_success (with_reducible show ∃ k, opC .In _ _ _ = some k ∧ _)); refine ⟨_, rfl, ?_⟩)))
    refine o_fdiv (by decide) (by decide) ?_
    (repeat (first | ((with_reducible show Wp (evSs _ _ (List.set _ _ _) _) _); simp only [List.set_cons_succ, List.set_cons_zero]) | with_reducible (first | apply s_cons | apply th_nx | apply th_rt | apply th_bk | apply th_ct | apply s_nil | apply s_set | apply s_par2 | apply s_seti | apply s_ife | apply s_ret | apply s_retN | apply s_exp | apply s_brk | apply s_cnt | apply s_pss | apply s_loop | apply rt_rt | apply rt_nx | apply wh_nx | apply wh_ct | apply wh_bk | apply wh_rt | apply w_int | apply w_non | apply w_bl | apply w_str | apply w_tup | apply w_lst | apply w_dct0 | apply es_nil | apply es_cons | apply w_bin | apply w_neg | apply w_cmp | apply w_chn | apply w_and | apply w_or | apply w_not | apply w_ife | apply w_idx | apply w_slc | apply w_rev | apply w_call | apply w_bi | apply w_isi | apply w_mth | apply w_lc | apply o_no | apply o_so | apply ts_nil | apply ts_cons | apply i_val | apply i_rng1 | apply i_rng2 | apply i_enu | apply i_zip | apply o_addI | apply o_subI | apply b_lenT | apply b_lenR | apply b_abs | apply b_intI | apply b_tupT | apply b_listT | apply l_tup | apply l_rol | apply bo_bl) | ((with_reducible apply s_augA); rfl) | ((with_reducible apply s_augS); rfl) | ((with_reducible apply w_var); rfl) | ((with_reducible apply w_glb); rfl) | ((with_reducible apply w_calk); rfl) | ((fail_if_success (with_reducible show ∃ k, opC .NotIn _ _ _ = some k ∧ _)); (fail_if_success (with_reducible show ∃ k, opC .In _ _ _ = some k ∧ _)); refine ⟨_, rfl, ?_⟩)))
    refine ⟨m, Nat.lt_succ_self _, j / 2, acc ++ [((j % 2 : Nat) : Int)], ?_, ?_, K.set (.inr (Nat.le_refl _)) _, by rw [Nat.pow_succ] at hj; omega, by omega, by simp; omega, by rw [← hd, digs_go j1]; simp⟩
    · try simp only [List.set_cons_succ, List.set_cons_zero]
      rfl
    · rw [List.map_append]
      exact set_at ha
  · have j1 : j ≤ 1 := by have := of_decide_eq_false e; omega
    rw [digs_end j1, List.append_nil] at hd
    (repeat (first | ((with_reducible show Wp (evSs _ _ (List.set _ _ _) _) _); simp only [List.set_cons_succ, List.set_cons_zero]) | with_reducible (first | apply s_cons | apply th_nx | apply th_rt | apply th_bk | apply th_ct | apply s_nil | apply s_set | apply s_par2 | apply s_seti | apply s_ife | apply s_ret | apply s_retN | apply s_exp | apply s_brk | apply s_cnt | apply s_pss | apply s_loop | apply rt_rt | apply rt_nx | apply wh_nx | apply wh_ct | apply wh_bk | apply wh_rt | apply w_int | apply w_non | apply w_bl | apply w_str | apply w_tup | apply w_lst | apply w_dct0 | apply es_nil | apply es_cons | apply w_bin | apply w_neg | apply w_cmp | apply w_chn | apply w_and | apply w_or | apply w_not | apply w_ife | apply w_idx | apply w_slc | apply w_rev | apply w_call | apply w_bi | apply w_isi | apply w_mth | apply w_lc | apply o_no | apply o_so | apply ts_nil | apply ts_cons | apply i_val | apply i_rng1 | apply i_rng2 | apply i_enu | apply i_zip | apply o_addI | apply o_subI | apply b_lenT | apply b_lenR | apply b_abs | apply b_intI | apply b_tupT | apply b_listT | apply l_tup | apply l_rol | apply bo_bl) | ((with_reducible apply s_augA); rfl) | ((with_reducible apply s_augS); rfl) | ((with_reducible apply w_var); rfl) | ((with_reducible apply w_glb); rfl) | ((with_reducible apply w_calk); rfl) | ((fail_if_success (with_reducible show ∃ k, opC .NotIn _ _ _ = some k ∧ _)); (fail_if_success (with_reducible show ∃ k, opC .In _ _ _ = some k ∧ _)); refine ⟨_, rfl, ?_⟩)))
    refine r_loc ha ?_
    (repeat (first | ((with_reducible show Wp (evSs _ _ (List.set _ _ _) _) _); simp only [List.set_cons_succ, List.set_cons_zero]) | with_reducible (first | apply s_cons | apply th_nx | apply th_rt | apply th_bk | apply th_ct | apply s_nil | apply s_set | apply s_par2 | apply s_seti | apply s_ife | apply s_ret | apply s_retN | apply s_exp | apply s_brk | apply s_cnt | apply s_pss | apply s_loop | apply rt_rt | apply rt_nx | apply wh_nx | apply wh_ct | apply wh_bk | apply wh_rt | apply w_int | apply w_non | apply w_bl | apply w_str | apply w_tup | apply w_lst | apply w_dct0 | apply es_nil | apply es_cons | apply w_bin | apply w_neg | apply w_cmp | apply w_chn | apply w_and | apply w_or | apply w_not | apply w_ife | apply w_idx | apply w_slc | apply w_rev | apply w_call | apply w_bi | apply w_isi | apply w_mth | apply w_lc | apply o_no | apply o_so | apply ts_nil | apply ts_cons | apply i_val | apply i_rng1 | apply i_rng2 | apply i_enu | apply i_zip | apply o_addI | apply o_subI | apply b_lenT | apply b_lenR | apply b_abs | apply b_intI | apply b_tupT | apply b_listT | apply l_tup | apply l_rol | apply bo_bl) | ((with_reducible apply s_augA); rfl) | ((with_reducible apply s_augS); rfl) | ((with_reducible apply w_var); rfl) | ((with_reducible apply w_glb); rfl) | ((with_reducible apply w_calk); rfl) | ((fail_if_success (with_reducible show ∃ k, opC .NotIn _ _ _ = some k ∧ _)); (fail_if_success (with_reducible show ∃ k, opC .In _ _ _ = some k ∧ _)); refine ⟨_, rfl, ?_⟩)))
    refine b_tupL push_at ?_
    (repeat (first | ((with_reducible show Wp (evSs _ _ (List.set _ _ _) _) _); simp only [List.set_cons_succ, List.set_cons_zero]) | with_reducible (first | apply s_cons | apply th_nx | apply th_rt | apply th_bk | apply th_ct | apply s_nil | apply s_set | apply s_par2 | apply s_seti | apply s_ife | apply s_ret | apply s_retN | apply s_exp | apply s_brk | apply s_cnt | apply s_pss | apply s_loop | apply rt_rt | apply rt_nx | apply wh_nx | apply wh_ct | apply wh_bk | apply wh_rt | apply w_int | apply w_non | apply w_bl | apply w_str | apply w_tup | apply w_lst | apply w_dct0 | apply es_nil | apply es_cons | apply w_bin | apply w_neg | apply w_cmp | apply w_chn | apply w_and | apply w_or | apply w_not | apply w_ife | apply w_idx | apply w_slc | apply w_rev | apply w_call | apply w_bi | apply w_isi | apply w_mth | apply w_lc | apply o_no | apply o_so | apply ts_nil | apply ts_cons | apply i_val | apply i_rng1 | apply i_rng2 | apply i_enu | apply i_zip | apply o_addI | apply o_subI | apply b_lenT | apply b_lenR | apply b_abs | apply b_intI | apply b_tupT | apply b_listT | apply l_tup | apply l_rol | apply bo_bl) | ((with_reducible apply s_augA); rfl) | ((with_reducible apply s_augS); rfl) | ((with_reducible apply w_var); rfl) | ((with_reducible apply w_glb); rfl) | ((with_reducible apply w_calk); rfl) | ((fail_if_success (with_reducible show ∃ k, opC .NotIn _ _ _ = some k ∧ _)); (fail_if_success (with_reducible show ∃ k, opC .In _ _ _ = some k ∧ _)); refine ⟨_, rfl, ?_⟩)))
    refine ⟨?_, K.push _⟩
    rw [digs, ← hd, List.map_reverse]
theorem digits_ok {n : Nat} {s : Sto} {k : Nat} (hk : k + 1 < 2 ^ 200) : Wp (run P (n + 1) 15 [.int k] s) fun r s' => r = .tup ((digs (k + 1)).map D.int) ∧ Kx [] s s' := by
  refine run_fn f15 rfl (by decide) ?_
  unfold b15
  show Wp (evSs _ _ [some (.int k), none, none] s) _
  (repeat (first | ((with_reducible show Wp (evSs _ _ (List.set _ _ _) _) _); simp only [List.set_cons_succ, List.set_cons_zero]) | with_reducible (first | apply s_cons | apply th_nx | apply th_rt | apply th_bk | apply th_ct | apply s_nil | apply s_set | apply s_par2 | apply s_seti | apply s_ife | apply s_ret | apply s_retN | apply s_exp | apply s_brk | apply s_cnt | apply s_pss | apply s_loop | apply rt_rt | apply rt_nx | apply wh_nx | apply wh_ct | apply wh_bk | apply wh_rt | apply w_int | apply w_non | apply w_bl | apply w_str | apply w_tup | apply w_lst | apply w_dct0 | apply es_nil | apply es_cons | apply w_bin | apply w_neg | apply w_cmp | apply w_chn | apply w_and | apply w_or | apply w_not | apply w_ife | apply w_idx | apply w_slc | apply w_rev | apply w_call | apply w_bi | apply w_isi | apply w_mth | apply w_lc | apply o_no | apply o_so | apply ts_nil | apply ts_cons | apply i_val | apply i_rng1 | apply i_rng2 | apply i_enu | apply i_zip | apply o_addI | apply o_subI | apply b_lenT | apply b_lenR | apply b_abs | apply b_intI | apply b_tupT | apply b_listT | apply l_tup | apply l_rol | apply bo_bl) | ((with_reducible apply s_augA); rfl) | ((with_reducible apply s_augS); rfl) | ((with_reducible apply w_var); rfl) | ((with_reducible apply w_glb); rfl) | ((with_reducible apply w_calk); rfl) | ((fail_if_success (with_reducible show ∃ k, opC .NotIn _ _ _ = some k ∧ _)); (fail_if_success (with_reducible show ∃ k, opC .In _ _ _ = some k ∧ _)); refine ⟨_, rfl, ?_⟩)))
  refine ⟨by simp, ?_⟩
  (repeat (first | ((with_reducible show Wp (evSs _ _ (List.set _ _ _) _) _); simp only [List.set_cons_succ, List.set_cons_zero]) | with_reducible (first | apply s_cons | apply th_nx | apply th_rt | apply th_bk | apply th_ct | apply s_nil | apply s_set | apply s_par2 | apply s_seti | apply s_ife | apply s_ret | apply s_retN | apply s_exp | apply s_brk | apply s_cnt | apply s_pss | apply s_loop | apply rt_rt | apply rt_nx | apply wh_nx | apply wh_ct | apply wh_bk | apply wh_rt | apply w_int | apply w_non | apply w_bl | apply w_str | apply w_tup | apply w_lst | apply w_dct0 | apply es_nil | apply es_cons | apply w_bin | apply w_neg | apply w_cmp | apply w_chn | apply w_and | apply w_or | apply w_not | apply w_ife | apply w_idx | apply w_slc | apply w_rev | apply w_call | apply w_bi | apply w_isi | apply w_mth | apply w_lc | apply o_no | apply o_so | apply ts_nil | apply ts_cons | apply i_val | apply i_rng1 | apply i_rng2 | apply i_enu | apply i_zip | apply o_addI | apply o_subI | apply b_lenT | apply b_lenR | apply b_abs | apply b_intI | apply b_tupT | apply b_listT | apply l_tup | apply l_rol | apply bo_bl) | ((with_reducible apply s_augA); rfl) | ((with_reducible apply s_augS); rfl) | ((with_reducible apply w_var); rfl) | ((with_reducible apply w_glb); rfl) | ((with_reducible apply w_calk); rfl) | ((fail_if_success (with_reducible show ∃ k, opC .NotIn _ _ _ = some k ∧ _)); (fail_if_success (with_reducible show ∃ k, opC .In _ _ _ = some k ∧ _)); refine ⟨_, rfl, ?_⟩)))
  refine s_whl (fun m e s' => ∃ (j : Nat) (acc : List Int), e = [some (.int k), some (.loc s.length), some (.int j)] ∧ s'[s.length]? = some (.lst (acc.map D.int)) ∧ Kx [] s s' ∧ j < 2 ^ m ∧ m ≤ 200 ∧ acc.length + m = 200 ∧ acc ++ lsb m j = lsb 200 (k + 1)) 200 ⟨k + 1, [], rfl, push_at, Kx.refl.push _, hk, by decide, rfl, rfl⟩ (show 200 < 1000000000 by decide) ?_
  rintro m e s' ⟨j, acc, rfl, ha, K, hj, hm, hl, hd⟩
  (repeat (first | ((with_reducible show Wp (evSs _ _ (List.set _ _ _) _) _); simp only [List.set_cons_succ, List.set_cons_zero]) | with_reducible (first | apply s_cons | apply th_nx | apply th_rt | apply th_bk | apply th_ct | apply s_nil | apply s_set | apply s_par2 | apply s_seti | apply s_ife | apply s_ret | apply s_retN | apply s_exp | apply s_brk | apply s_cnt | apply s_pss | apply s_loop | apply rt_rt | apply rt_nx | apply wh_nx | apply wh_ct | apply wh_bk | apply wh_rt | apply w_int | apply w_non | apply w_bl | apply w_str | apply w_tup | apply w_lst | apply w_dct0 | apply es_nil | apply es_cons | apply w_bin | apply w_neg | apply w_cmp | apply w_chn | apply w_and | apply w_or | apply w_not | apply w_ife | apply w_idx | apply w_slc | apply w_rev | apply w_call | apply w_bi | apply w_isi | apply w_mth | apply w_lc | apply o_no | apply o_so | apply ts_nil | apply ts_cons | apply i_val | apply i_rng1 | apply i_rng2 | apply i_enu | apply i_zip | apply o_addI | apply o_subI | apply b_lenT | apply b_lenR | apply b_abs | apply b_intI | apply b_tupT | apply b_listT | apply l_tup | apply l_rol | apply bo_bl) | ((with_reducible apply s_augA); rfl) | ((with_reducible apply s_augS); rfl) | ((with_reducible apply w_var); rfl) | ((with_reducible apply w_glb); rfl) | ((with_reducible apply w_calk); rfl) | ((fail_if_success (with_reducible show ∃ k, opC .NotIn _ _ _ = some k ∧ _)); (fail_if_success (with_reducible show ∃ k, opC .In _ _ _ = some k ∧ _)); refine ⟨_, rfl, ?_⟩)))
  refine ⟨fun e => ?_, fun e => ?_⟩
  · have j1 : 1 < j := by have := of_decide_eq_true e; omega
    obtain ⟨m, rfl⟩ : ∃ m', m = m' + 1 := ⟨m - 1, by
      cases m with
      | zero => simp at hj; omega
      | succ m => rfl⟩
    (repeat (first | ((with_reducible show Wp (evSs _ _ (List.set _ _ _) _) _); simp only [List.set_cons_succ, List.set_cons_zero]) | with_reducible (first | apply s_cons | apply th_nx | apply th_rt | apply th_bk | apply th_ct | apply s_nil | apply s_set | apply s_par2 | apply s_seti | apply s_ife | apply s_ret | apply s_retN | apply s_exp | apply s_brk | apply s_cnt | apply s_pss | apply s_loop | apply rt_rt | apply rt_nx | apply wh_nx | apply wh_ct | apply wh_bk | apply wh_rt | apply w_int | apply w_non | apply w_bl | apply w_str | apply w_tup | apply w_lst | apply w_dct0 | apply es_nil | apply es_cons | apply w_bin | apply w_neg | apply w_cmp | apply w_chn | apply w_and | apply w_or | apply w_not | apply w_ife | apply w_idx | apply w_slc | apply w_rev | apply w_call | apply w_bi | apply w_isi | apply w_mth | apply w_lc | apply o_no | apply o_so | apply ts_nil | apply ts_cons | apply i_val | apply i_rng1 | apply i_rng2 | apply i_enu | apply i_zip | apply o_addI | apply o_subI | apply b_lenT | apply b_lenR | apply b_abs | apply b_intI | apply b_tupT | apply b_listT | apply l_tup | apply l_rol | apply bo_bl) | ((with_reducible apply s_augA); rfl) | ((with_reducible apply s_augS); rfl) | ((with_reducible apply w_var); rfl) | ((with_reducible apply w_glb); rfl) | ((with_reducible apply w_calk); rfl) | ((fail_if_success (with_reducible show ∃ k, opC .NotIn _ _ _ = some k ∧ _)); (fail_if_success (with_reducible show ∃ k, opC .In _ _ _ = some k ∧ _)); refine ⟨_, rfl, ?_⟩)))
    refine ⟨rcv_loc (by decide) ha, ?_⟩
    (repeat (first | ((with_reducible show Wp (evSs _ _ (List.set _ _ _) _) _); simp only [List.set_cons_succ, List.set_cons_zero]) | with_reducible (first | apply s_cons | apply th_nx | apply th_rt | apply th_bk | apply th_ct | apply s_nil | apply s_set | apply s_par2 | apply s_seti | apply s_ife | apply s_ret | apply s_retN | apply s_exp | apply s_brk | apply s_cnt | apply s_pss | apply s_loop | apply rt_rt | apply rt_nx | apply wh_nx | apply wh_ct | apply wh_bk | apply wh_rt | apply w_int | apply w_non | apply w_bl | apply w_str | apply w_tup | apply w_lst | apply w_dct0 | apply es_nil | apply es_cons | apply w_bin | apply w_neg | apply w_cmp | apply w_chn | apply w_and | apply w_or | apply w_not | apply w_ife | apply w_idx | apply w_slc | apply w_rev | apply w_call | apply w_bi | apply w_isi | apply w_mth | apply w_lc | apply o_no | apply o_so | apply ts_nil | apply ts_cons | apply i_val | apply i_rng1 | apply i_rng2 | apply i_enu | apply i_zip | apply o_addI | apply o_subI | apply b_lenT | apply b_lenR | apply b_abs | apply b_intI | apply b_tupT | apply b_listT | apply l_tup | apply l_rol | apply bo_bl) | ((with_reducible apply s_augA); rfl) | ((with_reducible apply s_augS); rfl) | ((with_reducible apply w_var); rfl) | ((with_reducible apply w_glb); rfl) | ((with_reducible apply w_calk); rfl) | ((fail_if_success (with_reducible show ∃ k, opC .NotIn _ _ _ = some k ∧ _)); (fail_if_success (with_reducible show ∃ k, opC .In _ _ _ = some k ∧ _)); refine ⟨_, rfl, ?_⟩)))
    refine o_mod (by decide) ?_
    (repeat (first | ((with_reducible show Wp (evSs _ _ (List.set _ _ _) _) _); simp only [List.set_cons_succ, List.set_cons_zero]) | with_reducible (first | apply s_cons | apply th_nx | apply th_rt | apply th_bk | apply th_ct | apply s_nil | apply s_set | apply s_par2 | apply s_seti | apply s_ife | apply s_ret | apply s_retN | apply s_exp | apply s_brk | apply s_cnt | apply s_pss | apply s_loop | apply rt_rt | apply rt_nx | apply wh_nx | apply wh_ct | apply wh_bk | apply wh_rt | apply w_int | apply w_non | apply w_bl | apply w_str | apply w_tup | apply w_lst | apply w_dct0 | apply es_nil | apply es_cons | apply w_bin | apply w_neg | apply w_cmp | apply w_chn | apply w_and | apply w_or | apply w_not | apply w_ife | apply w_idx | apply w_slc | apply w_rev | apply w_call | apply w_bi | apply w_isi | apply w_mth | apply w_lc | apply o_no | apply o_so | apply ts_nil | apply ts_cons | apply i_val | apply i_rng1 | apply i_rng2 | apply i_enu | apply i_zip | apply o_addI | apply o_subI | apply b_lenT | apply b_lenR | apply b_abs | apply b_intI | apply b_tupT | apply b_listT | apply l_tup | apply l_rol | apply bo_bl) | ((with_reducible apply s_augA); rfl) | ((with_reducible apply s_augS); rfl) | ((with_reducible apply w_var); rfl) | ((with_reducible apply w_glb); rfl) | ((with_reducible apply w_calk); rfl) | ((fail_if_success (with_reducible show ∃ k, opC .NotIn _ _ _ = some k ∧ _)); (fail_if_success (with_reducible show ∃ k, opC .In _ _ _ = some k ∧ _)); refine ⟨_, rfl, ?_⟩)))
    refine m_append ha (by rw [List.length_map, sizeLine_eq]; omega) ?_
    (repeat (first | ((with_reducible show Wp (evSs _ _ (List.set _ _ _) _) _); simp only [List.set_cons_succ, List.set_cons_zero]) | with_reducible (first | apply s_cons | apply th_nx | apply th_rt | apply th_bk | apply th_ct | apply s_nil | apply s_set | apply s_par2 | apply s_seti | apply s_ife | apply s_ret | apply s_retN | apply s_exp | apply s_brk | apply s_cnt | apply s_pss | apply s_loop | apply rt_rt | apply rt_nx | apply wh_nx | apply wh_ct | apply wh_bk | apply wh_rt | apply w_int | apply w_non | apply w_bl | apply w_str | apply w_tup | apply w_lst | apply w_dct0 | apply es_nil | apply es_cons | apply w_bin | apply w_neg | apply w_cmp | apply w_chn | apply w_and | apply w_or | apply w_not | apply w_ife | apply w_idx | apply w_slc | apply w_rev | apply w_call | apply w_bi | apply w_isi | apply w_mth | apply w_lc | apply o_no | apply o_so | apply ts_nil | apply ts_cons | apply i_val | apply i_rng1 | apply i_rng2 | apply i_enu | apply i_zip | apply o_addI | apply o_subI | apply b_lenT | apply b_lenR | apply b_abs | apply b_intI | apply b_tupT | apply b_listT | apply l_tup | apply l_rol | apply bo_bl) | ((with_reducible apply s_augA); rfl) | ((with_reducible apply s_augS); rfl) | ((with_reducible apply w_var); rfl) | ((with_reducible apply w_glb); rfl) | ((with_reducible apply w_calk); rfl) | ((fail_if_success (with_reducible show ∃ k, opC .NotIn _ _ _ = some k ∧ _)); (fail_if_success (with_reducible show ∃ k, opC .In _ _ _ = some k ∧ _)); refine ⟨_, rfl, ?_⟩)))
    refine o_fdiv (by decide) (by decide) ?_
    (repeat (first | ((with_reducible show Wp (evSs _ _ (List.set _ _ _) _) _); simp only [List.set_cons_succ, List.set_cons_zero]) | with_reducible (first | apply s_cons | apply th_nx | apply th_rt | apply th_bk | apply th_ct | apply s_nil | apply s_set | apply s_par2 | apply s_seti | apply s_ife | apply s_ret | apply s_retN | apply s_exp | apply s_brk | apply s_cnt | apply s_pss | apply s_loop | apply rt_rt | apply rt_nx | apply wh_nx | apply wh_ct | apply wh_bk | apply wh_rt | apply w_int | apply w_non | apply w_bl | apply w_str | apply w_tup | apply w_lst | apply w_dct0 | apply es_nil | apply es_cons | apply w_bin | apply w_neg | apply w_cmp | apply w_chn | apply w_and | apply w_or | apply w_not | apply w_ife | apply w_idx | apply w_slc | apply w_rev | apply w_call | apply w_bi | apply w_isi | apply w_mth | apply w_lc | apply o_no | apply o_so | apply ts_nil | apply ts_cons | apply i_val | apply i_rng1 | apply i_rng2 | apply i_enu | apply i_zip | apply o_addI | apply o_subI | apply b_lenT | apply b_lenR | apply b_abs | apply b_intI | apply b_tupT | apply b_listT | apply l_tup | apply l_rol | apply bo_bl) | ((with_reducible apply s_augA); rfl) | ((with_reducible apply s_augS); rfl) | ((with_reducible apply w_var); rfl) | ((with_reducible apply w_glb); rfl) | ((with_reducible apply w_calk); rfl) | ((fail_if_success (with_reducible show ∃ k, opC .NotIn _ _ _ = some k ∧ _)); (fail_if_success (with_reducible show ∃ k, opC .In _ _ _ = some k ∧ _)); refine ⟨_, rfl, ?_⟩)))
    refine ⟨m, Nat.lt_succ_self _, j / 2, acc ++ [((j % 2 : Nat) : Int)], ?_, ?_, K.set (.inr (Nat.le_refl _)) _, by rw [Nat.pow_succ] at hj; omega, by omega, by simp; omega, by rw [← hd, digs_go j1]; simp⟩
    · try simp only [List.set_cons_succ, List.set_cons_zero]
      rfl
    · rw [List.map_append]
      exact set_at ha
  · have j1 : j ≤ 1 := by have := of_decide_eq_false e; omega
    rw [digs_end j1, List.append_nil] at hd
    (repeat (first | ((with_reducible show Wp (evSs _ _ (List.set _ _ _) _) _); simp only [List.set_cons_succ, List.set_cons_zero]) | with_reducible (first | apply s_cons | apply th_nx | apply th_rt | apply th_bk | apply th_ct | apply s_nil | apply s_set | apply s_par2 | apply s_seti | apply s_ife | apply s_ret | apply s_retN | apply s_exp | apply s_brk | apply s_cnt | apply s_pss | apply s_loop | apply rt_rt | apply rt_nx | apply wh_nx | apply wh_ct | apply wh_bk | apply wh_rt | apply w_int | apply w_non | apply w_bl | apply w_str | apply w_tup | apply w_lst | apply w_dct0 | apply es_nil | apply es_cons | apply w_bin | apply w_neg | apply w_cmp | apply w_chn | apply w_and | apply w_or | apply w_not | apply w_ife | apply w_idx | apply w_slc | apply w_rev | apply w_call | apply w_bi | apply w_isi | apply w_mth | apply w_lc | apply o_no | apply o_so | apply ts_nil | apply ts_cons | apply i_val | apply i_rng1 | apply i_rng2 | apply i_enu | apply i_zip | apply o_addI | apply o_subI | apply b_lenT | apply b_lenR | apply b_abs | apply b_intI | apply b_tupT | apply b_listT | apply l_tup | apply l_rol | apply bo_bl) | ((with_reducible apply s_augA); rfl) | ((with_reducible apply s_augS); rfl) | ((with_reducible apply w_var); rfl) | ((with_reducible apply w_glb); rfl) | ((with_reducible apply w_calk); rfl) | ((fail_if_success (with_reducible show ∃ k, opC .NotIn _ _ _ = some k ∧ _)); (fail_if_success (with_reducible show ∃ k, opC .In _ _ _ = some k ∧ _)); refine ⟨_, rfl, ?_⟩)))
    refine r_loc ha ?_
    (repeat (first | ((with_reducible show Wp (evSs _ _ (List.set _ _ _) _) _); simp only [List.set_cons_succ, List.set_cons_zero]) | with_reducible (first | apply s_cons | apply th_nx | apply th_rt | apply th_bk | apply th_ct | apply s_nil | apply s_set | apply s_par2 | apply s_seti | apply s_ife | apply s_ret | apply s_retN | apply s_exp | apply s_brk | apply s_cnt | apply s_pss | apply s_loop | apply rt_rt | apply rt_nx | apply wh_nx | apply wh_ct | apply wh_bk | apply wh_rt | apply w_int | apply w_non | apply w_bl | apply w_str | apply w_tup | apply w_lst | apply w_dct0 | apply es_nil | apply es_cons | apply w_bin | apply w_neg | apply w_cmp | apply w_chn | apply w_and | apply w_or | apply w_not | apply w_ife | apply w_idx | apply w_slc | apply w_rev | apply w_call | apply w_bi | apply w_isi | apply w_mth | apply w_lc | apply o_no | apply o_so | apply ts_nil | apply ts_cons | apply i_val | apply i_rng1 | apply i_rng2 | apply i_enu | apply i_zip | apply o_addI | apply o_subI | apply b_lenT | apply b_lenR | apply b_abs | apply b_intI | apply b_tupT | apply b_listT | apply l_tup | apply l_rol | apply bo_bl) | ((with_reducible apply s_augA); rfl) | ((with_reducible apply s_augS); rfl) | ((with_reducible apply w_var); rfl) | ((with_reducible apply w_glb); rfl) | ((with_reducible apply w_calk); rfl) | ((fail_if_success (with_reducible show ∃ k, opC .NotIn _ _ _ = some k ∧ _)); (fail_if_success (with_reducible show ∃ k, opC .In _ _ _ = some k ∧ _)); refine ⟨_, rfl, ?_⟩)))
    refine b_tupL push_at ?_
    (repeat (first | ((with_reducible show Wp (evSs _ _ (List.set _ _ _) _) _); simp only [List.set_cons_succ, List.set_cons_zero]) | with_reducible (first | apply s_cons | apply th_nx | apply th_rt | apply th_bk | apply th_ct | apply s_nil | apply s_set | apply s_par2 | apply s_seti | apply s_ife | apply s_ret | apply s_retN | apply s_exp | apply s_brk | apply s_cnt | apply s_pss | apply s_loop | apply rt_rt | apply rt_nx | apply wh_nx | apply wh_ct | apply wh_bk | apply wh_rt | apply w_int | apply w_non | apply w_bl | apply w_str | apply w_tup | apply w_lst | apply w_dct0 | apply es_nil | apply es_cons | apply w_bin | apply w_neg | apply w_cmp | apply w_chn | apply w_and | apply w_or | apply w_not | apply w_ife | apply w_idx | apply w_slc | apply w_rev | apply w_call | apply w_bi | apply w_isi | apply w_mth | apply w_lc | apply o_no | apply o_so | apply ts_nil | apply ts_cons | apply i_val | apply i_rng1 | apply i_rng2 | apply i_enu | apply i_zip | apply o_addI | apply o_subI | apply b_lenT | apply b_lenR | apply b_abs | apply b_intI | apply b_tupT | apply b_listT | apply l_tup | apply l_rol | apply bo_bl) | ((with_reducible apply s_augA); rfl) | ((with_reducible apply s_augS); rfl) | ((with_reducible apply w_var); rfl) | ((with_reducible apply w_glb); rfl) | ((with_reducible apply w_calk); rfl) | ((fail_if_success (with_reducible show ∃ k, opC .NotIn _ _ _ = some k ∧ _)); (fail_if_success (with_reducible show ∃ k, opC .In _ _ _ = some k ∧ _)); refine ⟨_, rfl, ?_⟩)))
    refine ⟨?_, K.push _⟩
    rw [digs, ← hd, List.map_reverse]
theorem f6 : P.fn[6]? = some ⟨1, 3, b6⟩ := rfl
theorem f16 : P.fn[16]? = some ⟨1, 3, b6⟩ := rfl
theorem place_ok {n f : Nat} {s : Sto} {bs : List Int} (hf : P.fn[f]? = some ⟨1, 3, b6⟩) (hb : Bits bs) (hl : bs.length ≤ 1000) : Wp (run P (n + 1) f [.tup (bs.map D.int)] s) fun r s' => r = .int (plv bs - 1) ∧ s' = s := by
  refine run_fn hf rfl (by decide) ?_
  unfold b6
  show Wp (evSs _ _ [some (.tup (bs.map D.int)), none, none] s) _
  (repeat (first | ((with_reducible show Wp (evSs _ _ (List.set _ _ _) _) _); simp only [List.set_cons_succ, List.set_cons_zero]) | with_reducible (first | apply s_cons | apply th_nx | apply th_rt | apply th_bk | apply th_ct | apply s_nil | apply s_set | apply s_par2 | apply s_seti | apply s_ife | apply s_ret | apply s_retN | apply s_exp | apply s_brk | apply s_cnt | apply s_pss | apply s_loop | apply rt_rt | apply rt_nx | apply wh_nx | apply wh_ct | apply wh_bk | apply wh_rt | apply w_int | apply w_non | apply w_bl | apply w_str | apply w_tup | apply w_lst | apply w_dct0 | apply es_nil | apply es_cons | apply w_bin | apply w_neg | apply w_cmp | apply w_chn | apply w_and | apply w_or | apply w_not | apply w_ife | apply w_idx | apply w_slc | apply w_rev | apply w_call | apply w_bi | apply w_isi | apply w_mth | apply w_lc | apply o_no | apply o_so | apply ts_nil | apply ts_cons | apply i_val | apply i_rng1 | apply i_rng2 | apply i_enu | apply i_zip | apply o_addI | apply o_subI | apply b_lenT | apply b_lenR | apply b_abs | apply b_intI | apply b_tupT | apply b_listT | apply l_tup | apply l_rol | apply bo_bl) | ((with_reducible apply s_augA); rfl) | ((with_reducible apply s_augS); rfl) | ((with_reducible apply w_var); rfl) | ((with_reducible apply w_glb); rfl) | ((with_reducible apply w_calk); rfl) | ((fail_if_success (with_reducible show ∃ k, opC .NotIn _ _ _ = some k ∧ _)); (fail_if_success (with_reducible show ∃ k, opC .In _ _ _ = some k ∧ _)); refine ⟨_, rfl, ?_⟩)))
  refine fo_inv (fun xs e s' => ∃ (a : Int) (x : Option D) (k : Nat) (cs : List Int), e = [some (.tup (bs.map D.int)), some (.int a), x] ∧ s' = s ∧ xs = cs.map D.int ∧ Bits cs ∧ (2 : Int) ^ k ≤ a ∧ a < (2 : Int) ^ (k + 1) ∧ k + cs.length ≤ 1000 ∧ cs.foldl (fun a b => 2 * a + b) a = plv bs) ?_ ?_ ⟨1, none, 0, bs, rfl, rfl, rfl, hb, by decide, by decide, by omega, rfl⟩
  · rintro x xs e s' ⟨a, x', k, cs, rfl, rfl, hx, hb, h1, h2, hk, hv⟩
    obtain ⟨c, cs, rfl⟩ : ∃ c c3, cs = c :: c3 := by
      cases cs with
      | nil => cases hx
      | cons c c3 => exact ⟨c, c3, rfl⟩
    cases hx
    have hc := hb c List.mem_cons_self
    have a0 : 0 ≤ a := Int.le_trans (Int.pow_nonneg (by decide)) h1
    refine ⟨fo_none, _, rfl, ?_⟩
    (repeat (first | ((with_reducible show Wp (evSs _ _ (List.set _ _ _) _) _); simp only [List.set_cons_succ, List.set_cons_zero]) | with_reducible (first | apply s_cons | apply th_nx | apply th_rt | apply th_bk | apply th_ct | apply s_nil | apply s_set | apply s_par2 | apply s_seti | apply s_ife | apply s_ret | apply s_retN | apply s_exp | apply s_brk | apply s_cnt | apply s_pss | apply s_loop | apply rt_rt | apply rt_nx | apply wh_nx | apply wh_ct | apply wh_bk | apply wh_rt | apply w_int | apply w_non | apply w_bl | apply w_str | apply w_tup | apply w_lst | apply w_dct0 | apply es_nil | apply es_cons | apply w_bin | apply w_neg | apply w_cmp | apply w_chn | apply w_and | apply w_or | apply w_not | apply w_ife | apply w_idx | apply w_slc | apply w_rev | apply w_call | apply w_bi | apply w_isi | apply w_mth | apply w_lc | apply o_no | apply o_so | apply ts_nil | apply ts_cons | apply i_val | apply i_rng1 | apply i_rng2 | apply i_enu | apply i_zip | apply o_addI | apply o_subI | apply b_lenT | apply b_lenR | apply b_abs | apply b_intI | apply b_tupT | apply b_listT | apply l_tup | apply l_rol | apply bo_bl) | ((with_reducible apply s_augA); rfl) | ((with_reducible apply s_augS); rfl) | ((with_reducible apply w_var); rfl) | ((with_reducible apply w_glb); rfl) | ((with_reducible apply w_calk); rfl) | ((fail_if_success (with_reducible show ∃ k, opC .NotIn _ _ _ = some k ∧ _)); (fail_if_success (with_reducible show ∃ k, opC .In _ _ _ = some k ∧ _)); refine ⟨_, rfl, ?_⟩)))
    refine o_mulI (by have := log_of a0 h2 (Nat.succ_pos _); have : (2 : Int).natAbs.log2 = 1 := by decide
                      simp only [List.length_cons] at hk; omega) ?_
    (repeat (first | ((with_reducible show Wp (evSs _ _ (List.set _ _ _) _) _); simp only [List.set_cons_succ, List.set_cons_zero]) | with_reducible (first | apply s_cons | apply th_nx | apply th_rt | apply th_bk | apply th_ct | apply s_nil | apply s_set | apply s_par2 | apply s_seti | apply s_ife | apply s_ret | apply s_retN | apply s_exp | apply s_brk | apply s_cnt | apply s_pss | apply s_loop | apply rt_rt | apply rt_nx | apply wh_nx | apply wh_ct | apply wh_bk | apply wh_rt | apply w_int | apply w_non | apply w_bl | apply w_str | apply w_tup | apply w_lst | apply w_dct0 | apply es_nil | apply es_cons | apply w_bin | apply w_neg | apply w_cmp | apply w_chn | apply w_and | apply w_or | apply w_not | apply w_ife | apply w_idx | apply w_slc | apply w_rev | apply w_call | apply w_bi | apply w_isi | apply w_mth | apply w_lc | apply o_no | apply o_so | apply ts_nil | apply ts_cons | apply i_val | apply i_rng1 | apply i_rng2 | apply i_enu | apply i_zip | apply o_addI | apply o_subI | apply b_lenT | apply b_lenR | apply b_abs | apply b_intI | apply b_tupT | apply b_listT | apply l_tup | apply l_rol | apply bo_bl) | ((with_reducible apply s_augA); rfl) | ((with_reducible apply s_augS); rfl) | ((with_reducible apply w_var); rfl) | ((with_reducible apply w_glb); rfl) | ((with_reducible apply w_calk); rfl) | ((fail_if_success (with_reducible show ∃ k, opC .NotIn _ _ _ = some k ∧ _)); (fail_if_success (with_reducible show ∃ k, opC .In _ _ _ = some k ∧ _)); refine ⟨_, rfl, ?_⟩)))
    refine ⟨2 * a + c, _, k + 1, cs, rfl, rfl, rfl, fun b h => hb b (List.mem_cons_of_mem _ h), by rw [Int.pow_succ]; omega, by rw [Int.pow_succ] at h2 ⊢; rw [Int.pow_succ]; omega, by simp only [List.length_cons] at hk; omega, hv⟩
  · rintro e s' ⟨a, x', k, cs, rfl, rfl, hx, hb, h1, h2, hk, hv⟩
    refine ⟨fo_none, ?_⟩
    (repeat (first | ((with_reducible show Wp (evSs _ _ (List.set _ _ _) _) _); simp only [List.set_cons_succ, List.set_cons_zero]) | with_reducible (first | apply s_cons | apply th_nx | apply th_rt | apply th_bk | apply th_ct | apply s_nil | apply s_set | apply s_par2 | apply s_seti | apply s_ife | apply s_ret | apply s_retN | apply s_exp | apply s_brk | apply s_cnt | apply s_pss | apply s_loop | apply rt_rt | apply rt_nx | apply wh_nx | apply wh_ct | apply wh_bk | apply wh_rt | apply w_int | apply w_non | apply w_bl | apply w_str | apply w_tup | apply w_lst | apply w_dct0 | apply es_nil | apply es_cons | apply w_bin | apply w_neg | apply w_cmp | apply w_chn | apply w_and | apply w_or | apply w_not | apply w_ife | apply w_idx | apply w_slc | apply w_rev | apply w_call | apply w_bi | apply w_isi | apply w_mth | apply w_lc | apply o_no | apply o_so | apply ts_nil | apply ts_cons | apply i_val | apply i_rng1 | apply i_rng2 | apply i_enu | apply i_zip | apply o_addI | apply o_subI | apply b_lenT | apply b_lenR | apply b_abs | apply b_intI | apply b_tupT | apply b_listT | apply l_tup | apply l_rol | apply bo_bl) | ((with_reducible apply s_augA); rfl) | ((with_reducible apply s_augS); rfl) | ((with_reducible apply w_var); rfl) | ((with_reducible apply w_glb); rfl) | ((with_reducible apply w_calk); rfl) | ((fail_if_success (with_reducible show ∃ k, opC .NotIn _ _ _ = some k ∧ _)); (fail_if_success (with_reducible show ∃ k, opC .In _ _ _ = some k ∧ _)); refine ⟨_, rfl, ?_⟩)))
    refine ⟨?_, rfl⟩
    cases cs with
    | nil => rw [← hv]; rfl
    | cons c cs => cases hx
end K01
set_option Elab.async false
set_option linter.all false
set_option maxRecDepth 100000
set_option maxHeartbeats 4000000
namespace K01
open PySem PySem.Spec PyProof.Rows L2 Iv
theorem f8 : P.fn[8]? = some ⟨2, 4, dw1⟩ := rfl
theorem f9 : P.fn[9]? = some ⟨2, 2, pk1 8⟩ := rfl
theorem f13 : P.fn[13]? = some ⟨2, 3, b13⟩ := rfl
theorem range_len : ∀ (n : Nat) (lo : Int), (rangeD lo n).length = n
  | 0, _ => rfl
  | n + 1, lo => by
    show (rangeD (lo + 1) n).length + 1 = _
    rw [range_len n]
theorem fm_bits {R : D → Option D → Prop} (hR : ∀ x r, R x r → ∃ i : Int, r = some (.int i) ∧ (i = 0 ∨ i = 1)) {xs ys : List D} (h : Fm R xs ys) : ∃ bs : List Int, ys = bs.map D.int ∧ Bits bs ∧ bs.length = xs.length := by
  induction h with
  | nil => exact ⟨[], rfl, fun _ h => by simp at h, rfl⟩
  | keep r _ ih =>
    obtain ⟨bs, rfl, hb, hl⟩ := ih
    obtain ⟨i, e, hi⟩ := hR _ _ r
    cases e
    exact ⟨i :: bs, rfl, fun b h => by rcases List.mem_cons.mp h with rfl | h; exact hi; exact hb b h, by simp [hl]⟩
  | skip r _ ih =>
    obtain ⟨i, e, hi⟩ := hR _ _ r
    cases e
theorem word_ok {n q b : Nat} {s : Sto} {most : Int} (B : Bag q b s) (h0 : 0 ≤ most) (h1 : most ≤ 300) :
    Wp (run P (n + 2) 13 [.loc b, .int most] s) fun d s' => ∃ bs : List Int, d = .tup (bs.map D.int) ∧ Bits bs ∧ (bs.length : Int) ≤ most ∧ Bag q b s' ∧ Kx [q, b] s s' := by
  refine run_fn f13 rfl (by decide) ?_
  unfold b13
  show Wp (evSs _ _ [some (.loc b), some (.int most), none] s) _
  (repeat (first | ((with_reducible show Wp (evSs _ _ (List.set _ _ _) _) _); simp only [List.set_cons_succ, List.set_cons_zero]) | with_reducible (first | apply s_cons | apply th_nx | apply th_rt | apply th_bk | apply th_ct | apply s_nil | apply s_set | apply s_par2 | apply s_seti | apply s_ife | apply s_ret | apply s_retN | apply s_exp | apply s_brk | apply s_cnt | apply s_pss | apply s_loop | apply rt_rt | apply rt_nx | apply wh_nx | apply wh_ct | apply wh_bk | apply wh_rt | apply w_int | apply w_non | apply w_bl | apply w_str | apply w_tup | apply w_lst | apply w_dct0 | apply es_nil | apply es_cons | apply w_bin | apply w_neg | apply w_cmp | apply w_chn | apply w_and | apply w_or | apply w_not | apply w_ife | apply w_idx | apply w_slc | apply w_rev | apply w_call | apply w_bi | apply w_isi | apply w_mth | apply w_lc | apply o_no | apply o_so | apply ts_nil | apply ts_cons | apply i_val | apply i_rng1 | apply i_rng2 | apply i_enu | apply i_zip | apply o_addI | apply o_subI | apply b_lenT | apply b_lenR | apply b_abs | apply b_intI | apply b_tupT | apply b_listT | apply l_tup | apply l_rol | apply bo_bl) | ((with_reducible apply s_augA); rfl) | ((with_reducible apply s_augS); rfl) | ((with_reducible apply w_var); rfl) | ((with_reducible apply w_glb); rfl) | ((with_reducible apply w_calk); rfl) | ((fail_if_success (with_reducible show ∃ k, opC .NotIn _ _ _ = some k ∧ _)); (fail_if_success (with_reducible show ∃ k, opC .In _ _ _ = some k ∧ _)); refine ⟨_, rfl, ?_⟩)))
  refine wp_mono (draw_ok f8 rfl B (by omega) (by have := log2_of (i := most + 1) (k := 100) (by omega) (by decide); omega)) ?_
  rintro d s1 ⟨r, rfl, r0, r1, B1, K1⟩
  (repeat (first | ((with_reducible show Wp (evSs _ _ (List.set _ _ _) _) _); simp only [List.set_cons_succ, List.set_cons_zero]) | with_reducible (first | apply s_cons | apply th_nx | apply th_rt | apply th_bk | apply th_ct | apply s_nil | apply s_set | apply s_par2 | apply s_seti | apply s_ife | apply s_ret | apply s_retN | apply s_exp | apply s_brk | apply s_cnt | apply s_pss | apply s_loop | apply rt_rt | apply rt_nx | apply wh_nx | apply wh_ct | apply wh_bk | apply wh_rt | apply w_int | apply w_non | apply w_bl | apply w_str | apply w_tup | apply w_lst | apply w_dct0 | apply es_nil | apply es_cons | apply w_bin | apply w_neg | apply w_cmp | apply w_chn | apply w_and | apply w_or | apply w_not | apply w_ife | apply w_idx | apply w_slc | apply w_rev | apply w_call | apply w_bi | apply w_isi | apply w_mth | apply w_lc | apply o_no | apply o_so | apply ts_nil | apply ts_cons | apply i_val | apply i_rng1 | apply i_rng2 | apply i_enu | apply i_zip | apply o_addI | apply o_subI | apply b_lenT | apply b_lenR | apply b_abs | apply b_intI | apply b_tupT | apply b_listT | apply l_tup | apply l_rol | apply bo_bl) | ((with_reducible apply s_augA); rfl) | ((with_reducible apply s_augS); rfl) | ((with_reducible apply w_var); rfl) | ((with_reducible apply w_glb); rfl) | ((with_reducible apply w_calk); rfl) | ((fail_if_success (with_reducible show ∃ k, opC .NotIn _ _ _ = some k ∧ _)); (fail_if_success (with_reducible show ∃ k, opC .In _ _ _ = some k ∧ _)); refine ⟨_, rfl, ?_⟩)))
  refine ⟨⟨by omega, by omega⟩, ?_⟩
  refine lc_kx (X := [q, b]) (fun _ r => ∃ i : Int, r = some (.int i) ∧ (i = 0 ∨ i = 1)) (Bag q b) (fun s1 s2 h B => B.keep (h q B1.lt.1).symm (h b B1.lt.2.1).symm) (by have := B1.lt; intro x hx; simp at hx; rcases hx with rfl | rfl; exact this.1; exact this.2.1) B1 ?_ (by rintro n ys e; cases e) ?_ ?_
  · show (rangeD 0 r.toNat).length ≤ _
    rw [range_len, sizeLine_eq]
    omega
  · intro x hx s' K lt B'
    refine ⟨_, rfl, ?_⟩
    (repeat (first | ((with_reducible show Wp (evSs _ _ (List.set _ _ _) _) _); simp only [List.set_cons_succ, List.set_cons_zero]) | with_reducible (first | apply s_cons | apply th_nx | apply th_rt | apply th_bk | apply th_ct | apply s_nil | apply s_set | apply s_par2 | apply s_seti | apply s_ife | apply s_ret | apply s_retN | apply s_exp | apply s_brk | apply s_cnt | apply s_pss | apply s_loop | apply rt_rt | apply rt_nx | apply wh_nx | apply wh_ct | apply wh_bk | apply wh_rt | apply w_int | apply w_non | apply w_bl | apply w_str | apply w_tup | apply w_lst | apply w_dct0 | apply es_nil | apply es_cons | apply w_bin | apply w_neg | apply w_cmp | apply w_chn | apply w_and | apply w_or | apply w_not | apply w_ife | apply w_idx | apply w_slc | apply w_rev | apply w_call | apply w_bi | apply w_isi | apply w_mth | apply w_lc | apply o_no | apply o_so | apply ts_nil | apply ts_cons | apply i_val | apply i_rng1 | apply i_rng2 | apply i_enu | apply i_zip | apply o_addI | apply o_subI | apply b_lenT | apply b_lenR | apply b_abs | apply b_intI | apply b_tupT | apply b_listT | apply l_tup | apply l_rol | apply bo_bl) | ((with_reducible apply s_augA); rfl) | ((with_reducible apply s_augS); rfl) | ((with_reducible apply w_var); rfl) | ((with_reducible apply w_glb); rfl) | ((with_reducible apply w_calk); rfl) | ((fail_if_success (with_reducible show ∃ k, opC .NotIn _ _ _ = some k ∧ _)); (fail_if_success (with_reducible show ∃ k, opC .In _ _ _ = some k ∧ _)); refine ⟨_, rfl, ?_⟩)))
    refine ⟨fun _ => ?_, fun e => nomatch e⟩
    (repeat (first | ((with_reducible show Wp (evSs _ _ (List.set _ _ _) _) _); simp only [List.set_cons_succ, List.set_cons_zero]) | with_reducible (first | apply s_cons | apply th_nx | apply th_rt | apply th_bk | apply th_ct | apply s_nil | apply s_set | apply s_par2 | apply s_seti | apply s_ife | apply s_ret | apply s_retN | apply s_exp | apply s_brk | apply s_cnt | apply s_pss | apply s_loop | apply rt_rt | apply rt_nx | apply wh_nx | apply wh_ct | apply wh_bk | apply wh_rt | apply w_int | apply w_non | apply w_bl | apply w_str | apply w_tup | apply w_lst | apply w_dct0 | apply es_nil | apply es_cons | apply w_bin | apply w_neg | apply w_cmp | apply w_chn | apply w_and | apply w_or | apply w_not | apply w_ife | apply w_idx | apply w_slc | apply w_rev | apply w_call | apply w_bi | apply w_isi | apply w_mth | apply w_lc | apply o_no | apply o_so | apply ts_nil | apply ts_cons | apply i_val | apply i_rng1 | apply i_rng2 | apply i_enu | apply i_zip | apply o_addI | apply o_subI | apply b_lenT | apply b_lenR | apply b_abs | apply b_intI | apply b_tupT | apply b_listT | apply l_tup | apply l_rol | apply bo_bl) | ((with_reducible apply s_augA); rfl) | ((with_reducible apply s_augS); rfl) | ((with_reducible apply w_var); rfl) | ((with_reducible apply w_glb); rfl) | ((with_reducible apply w_calk); rfl) | ((fail_if_success (with_reducible show ∃ k, opC .NotIn _ _ _ = some k ∧ _)); (fail_if_success (with_reducible show ∃ k, opC .In _ _ _ = some k ∧ _)); refine ⟨_, rfl, ?_⟩)))
    refine wp_mono (draw_ok f8 rfl B' (by decide) (by decide)) ?_
    rintro d s2 ⟨i, rfl, i0, i1, B2, K2⟩
    exact ⟨⟨i, rfl, by omega⟩, B2, K2⟩
  · intro ys s2 e2 fm B2 K2 lt
    obtain ⟨bs, rfl, hb, hl⟩ := fm_bits (fun _ _ h => h) fm
    (repeat (first | ((with_reducible show Wp (evSs _ _ (List.set _ _ _) _) _); simp only [List.set_cons_succ, List.set_cons_zero]) | with_reducible (first | apply s_cons | apply th_nx | apply th_rt | apply th_bk | apply th_ct | apply s_nil | apply s_set | apply s_par2 | apply s_seti | apply s_ife | apply s_ret | apply s_retN | apply s_exp | apply s_brk | apply s_cnt | apply s_pss | apply s_loop | apply rt_rt | apply rt_nx | apply wh_nx | apply wh_ct | apply wh_bk | apply wh_rt | apply w_int | apply w_non | apply w_bl | apply w_str | apply w_tup | apply w_lst | apply w_dct0 | apply es_nil | apply es_cons | apply w_bin | apply w_neg | apply w_cmp | apply w_chn | apply w_and | apply w_or | apply w_not | apply w_ife | apply w_idx | apply w_slc | apply w_rev | apply w_call | apply w_bi | apply w_isi | apply w_mth | apply w_lc | apply o_no | apply o_so | apply ts_nil | apply ts_cons | apply i_val | apply i_rng1 | apply i_rng2 | apply i_enu | apply i_zip | apply o_addI | apply o_subI | apply b_lenT | apply b_lenR | apply b_abs | apply b_intI | apply b_tupT | apply b_listT | apply l_tup | apply l_rol | apply bo_bl) | ((with_reducible apply s_augA); rfl) | ((with_reducible apply s_augS); rfl) | ((with_reducible apply w_var); rfl) | ((with_reducible apply w_glb); rfl) | ((with_reducible apply w_calk); rfl) | ((fail_if_success (with_reducible show ∃ k, opC .NotIn _ _ _ = some k ∧ _)); (fail_if_success (with_reducible show ∃ k, opC .In _ _ _ = some k ∧ _)); refine ⟨_, rfl, ?_⟩)))
    refine b_tupL e2 ?_
    (repeat (first | ((with_reducible show Wp (evSs _ _ (List.set _ _ _) _) _); simp only [List.set_cons_succ, List.set_cons_zero]) | with_reducible (first | apply s_cons | apply th_nx | apply th_rt | apply th_bk | apply th_ct | apply s_nil | apply s_set | apply s_par2 | apply s_seti | apply s_ife | apply s_ret | apply s_retN | apply s_exp | apply s_brk | apply s_cnt | apply s_pss | apply s_loop | apply rt_rt | apply rt_nx | apply wh_nx | apply wh_ct | apply wh_bk | apply wh_rt | apply w_int | apply w_non | apply w_bl | apply w_str | apply w_tup | apply w_lst | apply w_dct0 | apply es_nil | apply es_cons | apply w_bin | apply w_neg | apply w_cmp | apply w_chn | apply w_and | apply w_or | apply w_not | apply w_ife | apply w_idx | apply w_slc | apply w_rev | apply w_call | apply w_bi | apply w_isi | apply w_mth | apply w_lc | apply o_no | apply o_so | apply ts_nil | apply ts_cons | apply i_val | apply i_rng1 | apply i_rng2 | apply i_enu | apply i_zip | apply o_addI | apply o_subI | apply b_lenT | apply b_lenR | apply b_abs | apply b_intI | apply b_tupT | apply b_listT | apply l_tup | apply l_rol | apply bo_bl) | ((with_reducible apply s_augA); rfl) | ((with_reducible apply s_augS); rfl) | ((with_reducible apply w_var); rfl) | ((with_reducible apply w_glb); rfl) | ((with_reducible apply w_calk); rfl) | ((fail_if_success (with_reducible show ∃ k, opC .NotIn _ _ _ = some k ∧ _)); (fail_if_success (with_reducible show ∃ k, opC .In _ _ _ = some k ∧ _)); refine ⟨_, rfl, ?_⟩)))
    refine ⟨hb, ?_, B2, K1.trans K2⟩
    have l : bs.length = (rangeD 0 r.toNat).length := hl
    rw [range_len] at l
    omega
theorem f12 : P.fn[12]? = some ⟨3, 3, b12⟩ := rfl
theorem cut_mem {xs : List D} {lo hi : Option Int} {y : D} (h : y ∈ Iv.cutD xs lo hi) : y ∈ xs := List.mem_of_mem_drop (List.mem_of_mem_take h)
theorem with_ok {n : Nat} {s : Sto} {xs : List D} {i : Int} {d : D} (h0 : 0 ≤ i) (hl : xs.length ≤ 1000) :
    Wp (run P (n + 1) 12 [.tup xs, .int i, d] s) fun r s' => s' = s ∧ ∃ ys, r = .tup ys ∧ (∀ y ∈ ys, y ∈ xs ∨ y = d) ∧ ys.length ≤ xs.length + 1 := by
  refine run_fn f12 rfl (by decide) ?_
  unfold b12
  show Wp (evSs _ _ [some (.tup xs), some (.int i), some d] s) _
  have l1 : (Iv.cutD xs none (some i)).length + (Iv.cutD xs (some (i + 1)) none).length ≤ xs.length := by
    simp only [Iv.cutD, List.length_take, List.length_drop, HT.sIx]
    rw [if_neg (by omega), if_neg (by omega)]
    omega
  have l2 : (Iv.cutD xs none (some i)).length + [d].length ≤ sizeLine := by rw [sizeLine_eq]; simp only [List.length_cons, List.length_nil]; omega
  have l3 : (Iv.cutD xs none (some i) ++ [d]).length + (Iv.cutD xs (some (i + 1)) none).length ≤ sizeLine := by rw [sizeLine_eq]; simp only [List.length_append, List.length_cons, List.length_nil]; omega
  (repeat (first | ((with_reducible show Wp (evSs _ _ (List.set _ _ _) _) _); simp only [List.set_cons_succ, List.set_cons_zero]) | with_reducible (first | apply s_cons | apply th_nx | apply th_rt | apply th_bk | apply th_ct | apply s_nil | apply s_set | apply s_par2 | apply s_seti | apply s_ife | apply s_ret | apply s_retN | apply s_exp | apply s_brk | apply s_cnt | apply s_pss | apply s_loop | apply rt_rt | apply rt_nx | apply wh_nx | apply wh_ct | apply wh_bk | apply wh_rt | apply w_int | apply w_non | apply w_bl | apply w_str | apply w_tup | apply w_lst | apply w_dct0 | apply es_nil | apply es_cons | apply w_bin | apply w_neg | apply w_cmp | apply w_chn | apply w_and | apply w_or | apply w_not | apply w_ife | apply w_idx | apply w_slc | apply w_rev | apply w_call | apply w_bi | apply w_isi | apply w_mth | apply w_lc | apply o_no | apply o_so | apply ts_nil | apply ts_cons | apply i_val | apply i_rng1 | apply i_rng2 | apply i_enu | apply i_zip | apply o_addI | apply o_subI | apply b_lenT | apply b_lenR | apply b_abs | apply b_intI | apply b_tupT | apply b_listT | apply l_tup | apply l_rol | apply bo_bl) | ((with_reducible apply s_augA); rfl) | ((with_reducible apply s_augS); rfl) | ((with_reducible apply w_var); rfl) | ((with_reducible apply w_glb); rfl) | ((with_reducible apply w_calk); rfl) | ((fail_if_success (with_reducible show ∃ k, opC .NotIn _ _ _ = some k ∧ _)); (fail_if_success (with_reducible show ∃ k, opC .In _ _ _ = some k ∧ _)); refine ⟨_, rfl, ?_⟩)))
  refine o_addT l2 ?_
  (repeat (first | ((with_reducible show Wp (evSs _ _ (List.set _ _ _) _) _); simp only [List.set_cons_succ, List.set_cons_zero]) | with_reducible (first | apply s_cons | apply th_nx | apply th_rt | apply th_bk | apply th_ct | apply s_nil | apply s_set | apply s_par2 | apply s_seti | apply s_ife | apply s_ret | apply s_retN | apply s_exp | apply s_brk | apply s_cnt | apply s_pss | apply s_loop | apply rt_rt | apply rt_nx | apply wh_nx | apply wh_ct | apply wh_bk | apply wh_rt | apply w_int | apply w_non | apply w_bl | apply w_str | apply w_tup | apply w_lst | apply w_dct0 | apply es_nil | apply es_cons | apply w_bin | apply w_neg | apply w_cmp | apply w_chn | apply w_and | apply w_or | apply w_not | apply w_ife | apply w_idx | apply w_slc | apply w_rev | apply w_call | apply w_bi | apply w_isi | apply w_mth | apply w_lc | apply o_no | apply o_so | apply ts_nil | apply ts_cons | apply i_val | apply i_rng1 | apply i_rng2 | apply i_enu | apply i_zip | apply o_addI | apply o_subI | apply b_lenT | apply b_lenR | apply b_abs | apply b_intI | apply b_tupT | apply b_listT | apply l_tup | apply l_rol | apply bo_bl) | ((with_reducible apply s_augA); rfl) | ((with_reducible apply s_augS); rfl) | ((with_reducible apply w_var); rfl) | ((with_reducible apply w_glb); rfl) | ((with_reducible apply w_calk); rfl) | ((fail_if_success (with_reducible show ∃ k, opC .NotIn _ _ _ = some k ∧ _)); (fail_if_success (with_reducible show ∃ k, opC .In _ _ _ = some k ∧ _)); refine ⟨_, rfl, ?_⟩)))
  refine o_addT l3 ?_
  (repeat (first | ((with_reducible show Wp (evSs _ _ (List.set _ _ _) _) _); simp only [List.set_cons_succ, List.set_cons_zero]) | with_reducible (first | apply s_cons | apply th_nx | apply th_rt | apply th_bk | apply th_ct | apply s_nil | apply s_set | apply s_par2 | apply s_seti | apply s_ife | apply s_ret | apply s_retN | apply s_exp | apply s_brk | apply s_cnt | apply s_pss | apply s_loop | apply rt_rt | apply rt_nx | apply wh_nx | apply wh_ct | apply wh_bk | apply wh_rt | apply w_int | apply w_non | apply w_bl | apply w_str | apply w_tup | apply w_lst | apply w_dct0 | apply es_nil | apply es_cons | apply w_bin | apply w_neg | apply w_cmp | apply w_chn | apply w_and | apply w_or | apply w_not | apply w_ife | apply w_idx | apply w_slc | apply w_rev | apply w_call | apply w_bi | apply w_isi | apply w_mth | apply w_lc | apply o_no | apply o_so | apply ts_nil | apply ts_cons | apply i_val | apply i_rng1 | apply i_rng2 | apply i_enu | apply i_zip | apply o_addI | apply o_subI | apply b_lenT | apply b_lenR | apply b_abs | apply b_intI | apply b_tupT | apply b_listT | apply l_tup | apply l_rol | apply bo_bl) | ((with_reducible apply s_augA); rfl) | ((with_reducible apply s_augS); rfl) | ((with_reducible apply w_var); rfl) | ((with_reducible apply w_glb); rfl) | ((with_reducible apply w_calk); rfl) | ((fail_if_success (with_reducible show ∃ k, opC .NotIn _ _ _ = some k ∧ _)); (fail_if_success (with_reducible show ∃ k, opC .In _ _ _ = some k ∧ _)); refine ⟨_, rfl, ?_⟩)))
  refine ⟨rfl, _, rfl, fun y hy => ?_, ?_⟩
  · rcases List.mem_append.mp hy with h | h
    · rcases List.mem_append.mp h with h | h
      · exact .inl (cut_mem h)
      · exact .inr (List.mem_singleton.mp h)
    · exact .inl (cut_mem h)
  · simp only [List.length_append, List.length_cons, List.length_nil]
    omega
/-- a value that the law judges -/
def GV (A : Nat → Prop) (s : Sto) (d : D) : Prop := Va A 100 s 4 3000 d ∨ ∃ n, d = .loc n ∧ A n ∧ (s[n]? = some (.dK []) ∨ s[n]? = some (.dK [(.inl 0, .int 1)]))
theorem GV.keep {A A' : Nat → Prop} {s s' : Sto} {d : D} (h : GV A s d) (k : ∀ n c, A n → s[n]? = some c → A' n ∧ s'[n]? = some c) : GV A' s' d := by
  rcases h with h | ⟨n, rfl, a, h⟩
  · exact .inl (h.keep k (Nat.le_refl _) (Nat.le_refl _))
  · rcases h with h | h
    · exact .inr ⟨n, rfl, (k _ _ a h).1, .inl (k _ _ a h).2⟩
    · exact .inr ⟨n, rfl, (k _ _ a h).1, .inr (k _ _ a h).2⟩
theorem da_kd {A : Nat → Prop} {s : Sto} {k : Nat} {d : D} {y : PyData} (h : Da A s k d y) : Kd s d := by
  cases h with
  | loc p e _ => exact (List.getElem?_eq_some_iff.mp e).1
  | _ => trivial
theorem das_kd {A : Nat → Prop} {s : Sto} : ∀ {k : Nat} {xs : List D} {ys : List PyData}, Das A s k xs ys → ∀ x ∈ xs, Kd s x
  | _, _, _, .nil, _, h => by simp at h
  | _, _, _, .cons a b, x, h => by
    rcases List.mem_cons.mp h with rfl | h
    · exact da_kd a
    · exact das_kd b x h
theorem GV.kt {A : Nat → Prop} {s : Sto} {d : D} (h : GV A s d) : Kt s d := by
  rcases h with ⟨y, a, b⟩ | ⟨n, rfl, a, h⟩
  · refine ⟨da_kd a, fun xs e => ?_⟩
    subst e
    cases a with
    | tup a => exact das_kd a
  · refine ⟨?_, fun xs e => nomatch e⟩
    rcases h with h | h <;> exact (List.getElem?_eq_some_iff.mp h).1
theorem GV.repr {A : Nat → Prop} {s : Sto} {d : D} (h : GV A s d) : ∃ z, reprD s d = some z := by
  rcases h with h | ⟨n, rfl, a, h⟩
  · obtain ⟨y, _, e⟩ := h.repr (by decide) (by decide) (by rw [sizeLine_eq]; decide)
    exact ⟨_, e⟩
  · rcases h with h | h
    · have c : (PyData.dict []).showable = true ∧ (PyData.dict []).shown.length ≤ sizeLine ∧ (PyData.dict []).depth ≤ 100 := by decide +kernel
      refine ⟨(PyData.dict []).shown, ?_⟩
      simp only [reprD, pyR, h]
      show (if (PyData.dict []).showable = true ∧ (PyData.dict []).shown.length ≤ sizeLine ∧ (PyData.dict []).depth ≤ 100 then some (PyData.dict []).shown else none) = _
      exact if_pos c
    · have c : (PyData.dict [(.int 0, .int 1)]).showable = true ∧ (PyData.dict [(.int 0, .int 1)]).shown.length ≤ sizeLine ∧ (PyData.dict [(.int 0, .int 1)]).depth ≤ 100 := by decide +kernel
      refine ⟨(PyData.dict [(.int 0, .int 1)]).shown, ?_⟩
      simp only [reprD, pyR, h]
      show (if (PyData.dict [(.int 0, .int 1)]).showable = true ∧ (PyData.dict [(.int 0, .int 1)]).shown.length ≤ sizeLine ∧ (PyData.dict [(.int 0, .int 1)]).depth ≤ 100 then some (PyData.dict [(.int 0, .int 1)]).shown else none) = _
      exact if_pos c
end K01
set_option Elab.async false
set_option linter.all false
set_option maxRecDepth 100000
set_option maxHeartbeats 4000000
namespace K01
open PySem PySem.Spec PyProof.Rows L2 Iv
theorem f11 : P.fn[11]? = some ⟨1, 2, b11⟩ := rfl
theorem odd_ok {n q b : Nat} {s : Sto} (B : Bag q b s) :
    Wp (run P (n + 3) 11 [.loc b] s) fun d s' => GV (fun n => s.length ≤ n ∧ n < s'.length) s' d ∧ Bag q b s' ∧ Kx [q, b] s s' := by
  refine run_fn f11 rfl (by decide) ?_
  unfold b11
  show Wp (evSs _ _ [some (.loc b), none] s) _
  (repeat (first | ((with_reducible show Wp (evSs _ _ (List.set _ _ _) _) _); simp only [List.set_cons_succ, List.set_cons_zero]) | with_reducible (first | apply s_cons | apply th_nx | apply th_rt | apply th_bk | apply th_ct | apply s_nil | apply s_set | apply s_par2 | apply s_seti | apply s_ife | apply s_ret | apply s_retN | apply s_exp | apply s_brk | apply s_cnt | apply s_pss | apply s_loop | apply rt_rt | apply rt_nx | apply wh_nx | apply wh_ct | apply wh_bk | apply wh_rt | apply w_int | apply w_non | apply w_bl | apply w_str | apply w_tup | apply w_lst | apply w_dct0 | apply es_nil | apply es_cons | apply w_bin | apply w_neg | apply w_cmp | apply w_chn | apply w_and | apply w_or | apply w_not | apply w_ife | apply w_idx | apply w_slc | apply w_rev | apply w_call | apply w_bi | apply w_isi | apply w_mth | apply w_lc | apply o_no | apply o_so | apply ts_nil | apply ts_cons | apply i_val | apply i_rng1 | apply i_rng2 | apply i_enu | apply i_zip | apply o_addI | apply o_subI | apply b_lenT | apply b_lenR | apply b_abs | apply b_intI | apply b_tupT | apply b_listT | apply l_tup | apply l_rol | apply bo_bl) | ((with_reducible apply s_augA); rfl) | ((with_reducible apply s_augS); rfl) | ((with_reducible apply w_var); rfl) | ((with_reducible apply w_glb); rfl) | ((with_reducible apply w_calk); rfl) | ((fail_if_success (with_reducible show ∃ k, opC .NotIn _ _ _ = some k ∧ _)); (fail_if_success (with_reducible show ∃ k, opC .In _ _ _ = some k ∧ _)); refine ⟨_, rfl, ?_⟩)))
  refine o_pow (by decide) ?_
  (repeat (first | ((with_reducible show Wp (evSs _ _ (List.set _ _ _) _) _); simp only [List.set_cons_succ, List.set_cons_zero]) | with_reducible (first | apply s_cons | apply th_nx | apply th_rt | apply th_bk | apply th_ct | apply s_nil | apply s_set | apply s_par2 | apply s_seti | apply s_ife | apply s_ret | apply s_retN | apply s_exp | apply s_brk | apply s_cnt | apply s_pss | apply s_loop | apply rt_rt | apply rt_nx | apply wh_nx | apply wh_ct | apply wh_bk | apply wh_rt | apply w_int | apply w_non | apply w_bl | apply w_str | apply w_tup | apply w_lst | apply w_dct0 | apply es_nil | apply es_cons | apply w_bin | apply w_neg | apply w_cmp | apply w_chn | apply w_and | apply w_or | apply w_not | apply w_ife | apply w_idx | apply w_slc | apply w_rev | apply w_call | apply w_bi | apply w_isi | apply w_mth | apply w_lc | apply o_no | apply o_so | apply ts_nil | apply ts_cons | apply i_val | apply i_rng1 | apply i_rng2 | apply i_enu | apply i_zip | apply o_addI | apply o_subI | apply b_lenT | apply b_lenR | apply b_abs | apply b_intI | apply b_tupT | apply b_listT | apply l_tup | apply l_rol | apply bo_bl) | ((with_reducible apply s_augA); rfl) | ((with_reducible apply s_augS); rfl) | ((with_reducible apply w_var); rfl) | ((with_reducible apply w_glb); rfl) | ((with_reducible apply w_calk); rfl) | ((fail_if_success (with_reducible show ∃ k, opC .NotIn _ _ _ = some k ∧ _)); (fail_if_success (with_reducible show ∃ k, opC .In _ _ _ = some k ∧ _)); refine ⟨_, rfl, ?_⟩)))
  have hs : q < s.length ∧ b < s.length := ⟨B.lt.1, B.lt.2.1⟩
  have ne1 : ∀ {c : C} {t : Sto}, s.length ≤ t.length → (t ++ [c]).length = t.length + 1 := fun _ => by simp
  have K4 : Kx [] s (s ++ [C.lst []] ++ [C.dK []] ++ [C.lst [D.int 0, D.int 0]] ++ [C.lst [D.non, D.bl true, D.bl false, D.str (Str.ofString ""), D.str (Str.ofString "0"),
              D.str (Str.ofString "way"), D.tup [], D.loc (List.length s), D.loc (List.length (s ++ [C.lst []])),
              D.tup [D.int 0], D.loc (List.length (s ++ [C.lst []] ++ [C.dK []])), D.int 41, D.int (-1),
              D.int (10 ^ Int.toNat 59), D.tup [D.non, D.int 0], D.tup [D.tup [D.int 0], D.int 1]]]) := (((Kx.refl.push _).push _).push _).push _
  refine wp_mono (pick_ok f9 f8 rfl (B.kx K4 (by simp) (by simp)) push_at (by simp; omega) (by simp; omega) (by simp) (by simp)) ?_
  rintro d s' ⟨hd, B', K'⟩
  refine th_rt (rt_rt ⟨?_, B', (K4.weak (by simp)).trans K'⟩)
  have c1 : s'[s.length]? = some (C.lst []) := K'.get (push_old (push_old (push_old push_at))) (by simp; omega)
  have c2 : s'[(s ++ [C.lst []]).length]? = some (C.dK []) := K'.get (push_old (push_old push_at)) (by simp; omega)
  have c3 : s'[(s ++ [C.lst []] ++ [C.dK []]).length]? = some (C.lst [D.int 0, D.int 0]) := K'.get (push_old push_at) (by simp; omega)
  have lt : s.length + 4 ≤ s'.length := by have := K'.1; simp at this; omega
  have i : ∀ {i : Int} {k n : Nat}, i.natAbs < 10 ^ 99 → Va (fun n => s.length ≤ n ∧ n < s'.length) 100 s' k n (.int i) := fun h => va_int h (by decide) (by decide)
  have up : ∀ {d : D} {k n : Nat}, Va (fun n => s.length ≤ n ∧ n < s'.length) 100 s' k n d → k ≤ 4 → n ≤ 3000 → GV (fun n => s.length ≤ n ∧ n < s'.length) s' d := fun h a b => .inl (h.mono a b)
  simp only [List.mem_cons, List.not_mem_nil, or_false] at hd
  rcases hd with rfl | rfl | rfl | rfl | rfl | rfl | rfl | rfl | rfl | rfl | rfl | rfl | rfl | rfl | rfl | rfl
  · exact .inl va_non
  · exact .inl va_bl
  · exact .inl va_bl
  · exact .inl (va_str (by decide +kernel) (by decide))
  · exact .inl (va_str (by decide +kernel) (by decide))
  · exact .inl (va_str (by decide +kernel) (by decide))
  · exact up (va_tup (k := 0) (n := 0) vas_nil) (by decide) (by decide)
  · exact up (va_loc (k := 0) (n := 0) ⟨Nat.le_refl _, by omega⟩ c1 vas_nil) (by decide) (by decide)
  · exact .inr ⟨_, rfl, ⟨by simp, by simp <;> omega⟩, .inl c2⟩
  · exact up (va_tup (k := 0) (vas_cons (n := 0) (m := 0) (i (by decide)) vas_nil)) (by decide) (by decide)
  · exact up (va_loc (k := 0) ⟨by simp <;> omega, by simp <;> omega⟩ c3 (vas_cons (n := 0) (i (by decide)) (vas_cons (n := 0) (m := 0) (i (by decide)) vas_nil))) (by decide) (by decide)
  · exact .inl (i (by decide))
  · exact .inl (i (by decide))
  · exact .inl (i (by decide))
  · exact up (va_tup (k := 0) (vas_cons (n := 0) va_non (vas_cons (n := 0) (m := 0) (i (by decide)) vas_nil))) (by decide) (by decide)
  · exact up (va_tup (k := 1) (vas_cons (n := 1) (va_tup (k := 0) (vas_cons (n := 0) (m := 0) (i (by decide)) vas_nil)) (vas_cons (n := 0) (m := 0) (i (by decide)) vas_nil))) (by decide) (by decide)
/-! ### words up to a length -/
def nextL (ws : List (List Int)) : List (List Int) := ws.flatMap fun w => [w ++ [0], w ++ [1]]
def lev1 : Nat → List (List Int)
  | 0 => [[]]
  | n + 1 => nextL (lev1 n)
def upto : Nat → List (List Int)
  | 0 => [[]]
  | n + 1 => upto n ++ lev1 (n + 1)
def wD (w : List Int) : D := .tup (w.map D.int)
theorem f4 : P.fn[4]? = some ⟨1, 6, b4⟩ := rfl
theorem lev1_len : ∀ n, (lev1 n).length = 2 ^ n
  | 0 => rfl
  | n + 1 => by
    have e : ∀ ws : List (List Int), (nextL ws).length = 2 * ws.length := fun ws => by
      induction ws with
      | nil => rfl
      | cons w ws ih =>
        show (([w ++ [0], w ++ [1]] : List (List Int)) ++ nextL ws).length = _
        rw [List.length_append, ih]
        simp only [List.length_cons, List.length_nil]
        omega
    rw [lev1, e, lev1_len n, Nat.pow_succ]
    omega
theorem upto_len : ∀ n, (upto n).length + 1 = 2 ^ (n + 1)
  | 0 => rfl
  | n + 1 => by
    have := upto_len n
    rw [upto, List.length_append, lev1_len, Nat.pow_succ 2 (n + 1)]
    omega
theorem lev1_each : ∀ n, ∀ w ∈ lev1 n, w.length = n
  | 0, w, h => by simp [lev1] at h; subst h; rfl
  | n + 1, w, h => by
    obtain ⟨v, hv, h⟩ := List.mem_flatMap.mp (show w ∈ (lev1 n).flatMap _ from h)
    have := lev1_each n v hv
    simp at h
    rcases h with rfl | rfl <;> simp [this]
theorem upto_ok {n : Nat} {s : Sto} {k : Nat} (hk : k ≤ 8) : Wp (run P (n + 1) 4 [.int k] s) fun r s' => r = .tup ((upto k).map wD) ∧ Kx [] s s' := by
  refine run_fn f4 rfl (by decide) ?_
  unfold b4
  show Wp (evSs _ _ [some (.int k), none, none, none, none, none] s) _
  (repeat (first | ((with_reducible show Wp (evSs _ _ (List.set _ _ _) _) _); simp only [List.set_cons_succ, List.set_cons_zero]) | with_reducible (first | apply s_cons | apply th_nx | apply th_rt | apply th_bk | apply th_ct | apply s_nil | apply s_set | apply s_par2 | apply s_seti | apply s_ife | apply s_ret | apply s_retN | apply s_exp | apply s_brk | apply s_cnt | apply s_pss | apply s_loop | apply rt_rt | apply rt_nx | apply wh_nx | apply wh_ct | apply wh_bk | apply wh_rt | apply w_int | apply w_non | apply w_bl | apply w_str | apply w_tup | apply w_lst | apply w_dct0 | apply es_nil | apply es_cons | apply w_bin | apply w_neg | apply w_cmp | apply w_chn | apply w_and | apply w_or | apply w_not | apply w_ife | apply w_idx | apply w_slc | apply w_rev | apply w_call | apply w_bi | apply w_isi | apply w_mth | apply w_lc | apply o_no | apply o_so | apply ts_nil | apply ts_cons | apply i_val | apply i_rng1 | apply i_rng2 | apply i_enu | apply i_zip | apply o_addI | apply o_subI | apply b_lenT | apply b_lenR | apply b_abs | apply b_intI | apply b_tupT | apply b_listT | apply l_tup | apply l_rol | apply bo_bl) | ((with_reducible apply s_augA); rfl) | ((with_reducible apply s_augS); rfl) | ((with_reducible apply w_var); rfl) | ((with_reducible apply w_glb); rfl) | ((with_reducible apply w_calk); rfl) | ((fail_if_success (with_reducible show ∃ k, opC .NotIn _ _ _ = some k ∧ _)); (fail_if_success (with_reducible show ∃ k, opC .In _ _ _ = some k ∧ _)); refine ⟨_, rfl, ?_⟩)))
  refine ⟨by simp, ?_⟩
  (repeat (first | ((with_reducible show Wp (evSs _ _ (List.set _ _ _) _) _); simp only [List.set_cons_succ, List.set_cons_zero]) | with_reducible (first | apply s_cons | apply th_nx | apply th_rt | apply th_bk | apply th_ct | apply s_nil | apply s_set | apply s_par2 | apply s_seti | apply s_ife | apply s_ret | apply s_retN | apply s_exp | apply s_brk | apply s_cnt | apply s_pss | apply s_loop | apply rt_rt | apply rt_nx | apply wh_nx | apply wh_ct | apply wh_bk | apply wh_rt | apply w_int | apply w_non | apply w_bl | apply w_str | apply w_tup | apply w_lst | apply w_dct0 | apply es_nil | apply es_cons | apply w_bin | apply w_neg | apply w_cmp | apply w_chn | apply w_and | apply w_or | apply w_not | apply w_ife | apply w_idx | apply w_slc | apply w_rev | apply w_call | apply w_bi | apply w_isi | apply w_mth | apply w_lc | apply o_no | apply o_so | apply ts_nil | apply ts_cons | apply i_val | apply i_rng1 | apply i_rng2 | apply i_enu | apply i_zip | apply o_addI | apply o_subI | apply b_lenT | apply b_lenR | apply b_abs | apply b_intI | apply b_tupT | apply b_listT | apply l_tup | apply l_rol | apply bo_bl) | ((with_reducible apply s_augA); rfl) | ((with_reducible apply s_augS); rfl) | ((with_reducible apply w_var); rfl) | ((with_reducible apply w_glb); rfl) | ((with_reducible apply w_calk); rfl) | ((fail_if_success (with_reducible show ∃ k, opC .NotIn _ _ _ = some k ∧ _)); (fail_if_success (with_reducible show ∃ k, opC .In _ _ _ = some k ∧ _)); refine ⟨_, rfl, ?_⟩)))
  refine ⟨⟨by omega, by omega⟩, ?_⟩
  refine fo_inv (fun xs e s' => ∃ (x1 x4 x5 : Option D) (j a c : Nat), e = [some (.int k), x1, some (.loc a), some (.loc c), x4, x5] ∧ a ≠ c ∧ s.length ≤ a ∧ s.length ≤ c ∧ s'[a]? = some (.lst ((upto j).map wD)) ∧ s'[c]? = some (.lst ((lev1 j).map wD)) ∧ Kx [] s s' ∧ j + xs.length = k) ?_ ?_ ⟨none, none, none, 0, s.length, (s ++ [C.lst [D.tup []]]).length, rfl, by simp, by simp, by simp, push_old push_at, push_at, (Kx.refl.push _).push _, ?_⟩
  · rintro x xs e s' ⟨x1, x4, x5, j, a, c, rfl, ac, ha0, hc0, ha, hc, K, hj⟩
    refine ⟨fo_none, _, rfl, ?_⟩
    have hj8 : j + 1 ≤ 8 := by simp only [List.length_cons] at hj; omega
    (repeat (first | ((with_reducible show Wp (evSs _ _ (List.set _ _ _) _) _); simp only [List.set_cons_succ, List.set_cons_zero]) | with_reducible (first | apply s_cons | apply th_nx | apply th_rt | apply th_bk | apply th_ct | apply s_nil | apply s_set | apply s_par2 | apply s_seti | apply s_ife | apply s_ret | apply s_retN | apply s_exp | apply s_brk | apply s_cnt | apply s_pss | apply s_loop | apply rt_rt | apply rt_nx | apply wh_nx | apply wh_ct | apply wh_bk | apply wh_rt | apply w_int | apply w_non | apply w_bl | apply w_str | apply w_tup | apply w_lst | apply w_dct0 | apply es_nil | apply es_cons | apply w_bin | apply w_neg | apply w_cmp | apply w_chn | apply w_and | apply w_or | apply w_not | apply w_ife | apply w_idx | apply w_slc | apply w_rev | apply w_call | apply w_bi | apply w_isi | apply w_mth | apply w_lc | apply o_no | apply o_so | apply ts_nil | apply ts_cons | apply i_val | apply i_rng1 | apply i_rng2 | apply i_enu | apply i_zip | apply o_addI | apply o_subI | apply b_lenT | apply b_lenR | apply b_abs | apply b_intI | apply b_tupT | apply b_listT | apply l_tup | apply l_rol | apply bo_bl) | ((with_reducible apply s_augA); rfl) | ((with_reducible apply s_augS); rfl) | ((with_reducible apply w_var); rfl) | ((with_reducible apply w_glb); rfl) | ((with_reducible apply w_calk); rfl) | ((fail_if_success (with_reducible show ∃ k, opC .NotIn _ _ _ = some k ∧ _)); (fail_if_success (with_reducible show ∃ k, opC .In _ _ _ = some k ∧ _)); refine ⟨_, rfl, ?_⟩)))
    refine src_loc (push_old hc) ?_
    refine fo_inv (fun ys e s2 => ∃ (x5 : Option D) (done rest : List (List Int)), e = [some (.int k), some x, some (.loc a), some (.loc c), some (.loc s'.length), x5] ∧ lev1 j = done ++ rest ∧ ys = rest.map wD ∧ s2[s'.length]? = some (.lst ((nextL done).map wD)) ∧ Kx [] s' s2) ?_ ?_ ⟨x5, [], lev1 j, rfl, rfl, rfl, push_at, Kx.refl.push _⟩
    · rintro y ys e s2 ⟨x5, done, rest, rfl, hd, hr, hn, K2⟩
      obtain ⟨w, rest, rfl⟩ : ∃ w r2, rest = w :: r2 := by
        cases rest with
        | nil => cases hr
        | cons w r2 => exact ⟨w, r2, rfl⟩
      cases hr
      have wl : w.length = j := lev1_each j w (by rw [hd]; simp)
      have dl : done.length ≤ 2 ^ j := by rw [← lev1_len j, hd]; simp
      have pj : 2 ^ j ≤ 2 ^ 8 := Nat.pow_le_pow_right (by decide) (by omega)
      have nl : (nextL done).length ≤ 512 := by
        have e : ∀ ws : List (List Int), (nextL ws).length = 2 * ws.length := fun ws => by
          induction ws with
          | nil => rfl
          | cons w ws ih =>
            show (([w ++ [0], w ++ [1]] : List (List Int)) ++ nextL ws).length = _
            rw [List.length_append, ih]
            simp only [List.length_cons, List.length_nil]
            omega
        rw [e]
        omega
      have ok : ∀ c : D, (w.map D.int).length + [c].length ≤ sizeLine := fun c => by
        rw [sizeLine_eq, List.length_map]
        simp only [List.length_cons, List.length_nil]
        omega
      refine ⟨fo_some (K2.get hc (by simp)), _, rfl, ?_⟩
      (repeat (first | ((with_reducible show Wp (evSs _ _ (List.set _ _ _) _) _); simp only [List.set_cons_succ, List.set_cons_zero]) | with_reducible (first | apply s_cons | apply th_nx | apply th_rt | apply th_bk | apply th_ct | apply s_nil | apply s_set | apply s_par2 | apply s_seti | apply s_ife | apply s_ret | apply s_retN | apply s_exp | apply s_brk | apply s_cnt | apply s_pss | apply s_loop | apply rt_rt | apply rt_nx | apply wh_nx | apply wh_ct | apply wh_bk | apply wh_rt | apply w_int | apply w_non | apply w_bl | apply w_str | apply w_tup | apply w_lst | apply w_dct0 | apply es_nil | apply es_cons | apply w_bin | apply w_neg | apply w_cmp | apply w_chn | apply w_and | apply w_or | apply w_not | apply w_ife | apply w_idx | apply w_slc | apply w_rev | apply w_call | apply w_bi | apply w_isi | apply w_mth | apply w_lc | apply o_no | apply o_so | apply ts_nil | apply ts_cons | apply i_val | apply i_rng1 | apply i_rng2 | apply i_enu | apply i_zip | apply o_addI | apply o_subI | apply b_lenT | apply b_lenR | apply b_abs | apply b_intI | apply b_tupT | apply b_listT | apply l_tup | apply l_rol | apply bo_bl) | ((with_reducible apply s_augA); rfl) | ((with_reducible apply s_augS); rfl) | ((with_reducible apply w_var); rfl) | ((with_reducible apply w_glb); rfl) | ((with_reducible apply w_calk); rfl) | ((fail_if_success (with_reducible show ∃ k, opC .NotIn _ _ _ = some k ∧ _)); (fail_if_success (with_reducible show ∃ k, opC .In _ _ _ = some k ∧ _)); refine ⟨_, rfl, ?_⟩)))
      refine ⟨rcv_loc (by decide) hn, ?_⟩
      (repeat (first | ((with_reducible show Wp (evSs _ _ (List.set _ _ _) _) _); simp only [List.set_cons_succ, List.set_cons_zero]) | with_reducible (first | apply s_cons | apply th_nx | apply th_rt | apply th_bk | apply th_ct | apply s_nil | apply s_set | apply s_par2 | apply s_seti | apply s_ife | apply s_ret | apply s_retN | apply s_exp | apply s_brk | apply s_cnt | apply s_pss | apply s_loop | apply rt_rt | apply rt_nx | apply wh_nx | apply wh_ct | apply wh_bk | apply wh_rt | apply w_int | apply w_non | apply w_bl | apply w_str | apply w_tup | apply w_lst | apply w_dct0 | apply es_nil | apply es_cons | apply w_bin | apply w_neg | apply w_cmp | apply w_chn | apply w_and | apply w_or | apply w_not | apply w_ife | apply w_idx | apply w_slc | apply w_rev | apply w_call | apply w_bi | apply w_isi | apply w_mth | apply w_lc | apply o_no | apply o_so | apply ts_nil | apply ts_cons | apply i_val | apply i_rng1 | apply i_rng2 | apply i_enu | apply i_zip | apply o_addI | apply o_subI | apply b_lenT | apply b_lenR | apply b_abs | apply b_intI | apply b_tupT | apply b_listT | apply l_tup | apply l_rol | apply bo_bl) | ((with_reducible apply s_augA); rfl) | ((with_reducible apply s_augS); rfl) | ((with_reducible apply w_var); rfl) | ((with_reducible apply w_glb); rfl) | ((with_reducible apply w_calk); rfl) | ((fail_if_success (with_reducible show ∃ k, opC .NotIn _ _ _ = some k ∧ _)); (fail_if_success (with_reducible show ∃ k, opC .In _ _ _ = some k ∧ _)); refine ⟨_, rfl, ?_⟩)))
      refine o_addT (ok _) ?_
      (repeat (first | ((with_reducible show Wp (evSs _ _ (List.set _ _ _) _) _); simp only [List.set_cons_succ, List.set_cons_zero]) | with_reducible (first | apply s_cons | apply th_nx | apply th_rt | apply th_bk | apply th_ct | apply s_nil | apply s_set | apply s_par2 | apply s_seti | apply s_ife | apply s_ret | apply s_retN | apply s_exp | apply s_brk | apply s_cnt | apply s_pss | apply s_loop | apply rt_rt | apply rt_nx | apply wh_nx | apply wh_ct | apply wh_bk | apply wh_rt | apply w_int | apply w_non | apply w_bl | apply w_str | apply w_tup | apply w_lst | apply w_dct0 | apply es_nil | apply es_cons | apply w_bin | apply w_neg | apply w_cmp | apply w_chn | apply w_and | apply w_or | apply w_not | apply w_ife | apply w_idx | apply w_slc | apply w_rev | apply w_call | apply w_bi | apply w_isi | apply w_mth | apply w_lc | apply o_no | apply o_so | apply ts_nil | apply ts_cons | apply i_val | apply i_rng1 | apply i_rng2 | apply i_enu | apply i_zip | apply o_addI | apply o_subI | apply b_lenT | apply b_lenR | apply b_abs | apply b_intI | apply b_tupT | apply b_listT | apply l_tup | apply l_rol | apply bo_bl) | ((with_reducible apply s_augA); rfl) | ((with_reducible apply s_augS); rfl) | ((with_reducible apply w_var); rfl) | ((with_reducible apply w_glb); rfl) | ((with_reducible apply w_calk); rfl) | ((fail_if_success (with_reducible show ∃ k, opC .NotIn _ _ _ = some k ∧ _)); (fail_if_success (with_reducible show ∃ k, opC .In _ _ _ = some k ∧ _)); refine ⟨_, rfl, ?_⟩)))
      refine o_addT (ok _) ?_
      (repeat (first | ((with_reducible show Wp (evSs _ _ (List.set _ _ _) _) _); simp only [List.set_cons_succ, List.set_cons_zero]) | with_reducible (first | apply s_cons | apply th_nx | apply th_rt | apply th_bk | apply th_ct | apply s_nil | apply s_set | apply s_par2 | apply s_seti | apply s_ife | apply s_ret | apply s_retN | apply s_exp | apply s_brk | apply s_cnt | apply s_pss | apply s_loop | apply rt_rt | apply rt_nx | apply wh_nx | apply wh_ct | apply wh_bk | apply wh_rt | apply w_int | apply w_non | apply w_bl | apply w_str | apply w_tup | apply w_lst | apply w_dct0 | apply es_nil | apply es_cons | apply w_bin | apply w_neg | apply w_cmp | apply w_chn | apply w_and | apply w_or | apply w_not | apply w_ife | apply w_idx | apply w_slc | apply w_rev | apply w_call | apply w_bi | apply w_isi | apply w_mth | apply w_lc | apply o_no | apply o_so | apply ts_nil | apply ts_cons | apply i_val | apply i_rng1 | apply i_rng2 | apply i_enu | apply i_zip | apply o_addI | apply o_subI | apply b_lenT | apply b_lenR | apply b_abs | apply b_intI | apply b_tupT | apply b_listT | apply l_tup | apply l_rol | apply bo_bl) | ((with_reducible apply s_augA); rfl) | ((with_reducible apply s_augS); rfl) | ((with_reducible apply w_var); rfl) | ((with_reducible apply w_glb); rfl) | ((with_reducible apply w_calk); rfl) | ((fail_if_success (with_reducible show ∃ k, opC .NotIn _ _ _ = some k ∧ _)); (fail_if_success (with_reducible show ∃ k, opC .In _ _ _ = some k ∧ _)); refine ⟨_, rfl, ?_⟩)))
      refine m_extend (push_old hn) push_at (by rw [sizeLine_eq, List.length_map]; simp only [List.length_cons, List.length_nil]; omega) ?_
      (repeat (first | ((with_reducible show Wp (evSs _ _ (List.set _ _ _) _) _); simp only [List.set_cons_succ, List.set_cons_zero]) | with_reducible (first | apply s_cons | apply th_nx | apply th_rt | apply th_bk | apply th_ct | apply s_nil | apply s_set | apply s_par2 | apply s_seti | apply s_ife | apply s_ret | apply s_retN | apply s_exp | apply s_brk | apply s_cnt | apply s_pss | apply s_loop | apply rt_rt | apply rt_nx | apply wh_nx | apply wh_ct | apply wh_bk | apply wh_rt | apply w_int | apply w_non | apply w_bl | apply w_str | apply w_tup | apply w_lst | apply w_dct0 | apply es_nil | apply es_cons | apply w_bin | apply w_neg | apply w_cmp | apply w_chn | apply w_and | apply w_or | apply w_not | apply w_ife | apply w_idx | apply w_slc | apply w_rev | apply w_call | apply w_bi | apply w_isi | apply w_mth | apply w_lc | apply o_no | apply o_so | apply ts_nil | apply ts_cons | apply i_val | apply i_rng1 | apply i_rng2 | apply i_enu | apply i_zip | apply o_addI | apply o_subI | apply b_lenT | apply b_lenR | apply b_abs | apply b_intI | apply b_tupT | apply b_listT | apply l_tup | apply l_rol | apply bo_bl) | ((with_reducible apply s_augA); rfl) | ((with_reducible apply s_augS); rfl) | ((with_reducible apply w_var); rfl) | ((with_reducible apply w_glb); rfl) | ((with_reducible apply w_calk); rfl) | ((fail_if_success (with_reducible show ∃ k, opC .NotIn _ _ _ = some k ∧ _)); (fail_if_success (with_reducible show ∃ k, opC .In _ _ _ = some k ∧ _)); refine ⟨_, rfl, ?_⟩)))
      refine ⟨_, done ++ [w], rest, rfl, by rw [hd]; simp, rfl, ?_, (K2.push _).set (.inr (Nat.le_refl _)) _⟩
      have e : (nextL (done ++ [w])).map wD = (nextL done).map wD ++ [.tup (w.map D.int ++ [.int 0]), .tup (w.map D.int ++ [.int 1])] := by
        unfold nextL
        rw [List.flatMap_append, List.map_append]
        simp [wD]
      rw [e]
      exact set_at (push_old hn)
    · rintro e s2 ⟨x5, done, rest, rfl, hd, hr, hn, K2⟩
      have : rest = [] := by
        cases rest with
        | nil => rfl
        | cons w r2 => cases hr
      subst this
      rw [List.append_nil] at hd
      subst hd
      refine ⟨fo_some (K2.get hc (by simp)), ?_⟩
      have ul : ((upto j).map wD).length + ((nextL (lev1 j)).map wD).length ≤ sizeLine := by
        have h1 := upto_len j
        have h2 : (nextL (lev1 j)).length = 2 ^ (j + 1) := lev1_len (j + 1)
        have h3 : 2 ^ (j + 1) ≤ 2 ^ 8 := Nat.pow_le_pow_right (by decide) (by omega)
        rw [sizeLine_eq, List.length_map, List.length_map, h2]
        omega
      (repeat (first | ((with_reducible show Wp (evSs _ _ (List.set _ _ _) _) _); simp only [List.set_cons_succ, List.set_cons_zero]) | with_reducible (first | apply s_cons | apply th_nx | apply th_rt | apply th_bk | apply th_ct | apply s_nil | apply s_set | apply s_par2 | apply s_seti | apply s_ife | apply s_ret | apply s_retN | apply s_exp | apply s_brk | apply s_cnt | apply s_pss | apply s_loop | apply rt_rt | apply rt_nx | apply wh_nx | apply wh_ct | apply wh_bk | apply wh_rt | apply w_int | apply w_non | apply w_bl | apply w_str | apply w_tup | apply w_lst | apply w_dct0 | apply es_nil | apply es_cons | apply w_bin | apply w_neg | apply w_cmp | apply w_chn | apply w_and | apply w_or | apply w_not | apply w_ife | apply w_idx | apply w_slc | apply w_rev | apply w_call | apply w_bi | apply w_isi | apply w_mth | apply w_lc | apply o_no | apply o_so | apply ts_nil | apply ts_cons | apply i_val | apply i_rng1 | apply i_rng2 | apply i_enu | apply i_zip | apply o_addI | apply o_subI | apply b_lenT | apply b_lenR | apply b_abs | apply b_intI | apply b_tupT | apply b_listT | apply l_tup | apply l_rol | apply bo_bl) | ((with_reducible apply s_augA); rfl) | ((with_reducible apply s_augS); rfl) | ((with_reducible apply w_var); rfl) | ((with_reducible apply w_glb); rfl) | ((with_reducible apply w_calk); rfl) | ((fail_if_success (with_reducible show ∃ k, opC .NotIn _ _ _ = some k ∧ _)); (fail_if_success (with_reducible show ∃ k, opC .In _ _ _ = some k ∧ _)); refine ⟨_, rfl, ?_⟩)))
      refine o_addL (K2.get ha (by simp)) hn ul ?_
      (repeat (first | ((with_reducible show Wp (evSs _ _ (List.set _ _ _) _) _); simp only [List.set_cons_succ, List.set_cons_zero]) | with_reducible (first | apply s_cons | apply th_nx | apply th_rt | apply th_bk | apply th_ct | apply s_nil | apply s_set | apply s_par2 | apply s_seti | apply s_ife | apply s_ret | apply s_retN | apply s_exp | apply s_brk | apply s_cnt | apply s_pss | apply s_loop | apply rt_rt | apply rt_nx | apply wh_nx | apply wh_ct | apply wh_bk | apply wh_rt | apply w_int | apply w_non | apply w_bl | apply w_str | apply w_tup | apply w_lst | apply w_dct0 | apply es_nil | apply es_cons | apply w_bin | apply w_neg | apply w_cmp | apply w_chn | apply w_and | apply w_or | apply w_not | apply w_ife | apply w_idx | apply w_slc | apply w_rev | apply w_call | apply w_bi | apply w_isi | apply w_mth | apply w_lc | apply o_no | apply o_so | apply ts_nil | apply ts_cons | apply i_val | apply i_rng1 | apply i_rng2 | apply i_enu | apply i_zip | apply o_addI | apply o_subI | apply b_lenT | apply b_lenR | apply b_abs | apply b_intI | apply b_tupT | apply b_listT | apply l_tup | apply l_rol | apply bo_bl) | ((with_reducible apply s_augA); rfl) | ((with_reducible apply s_augS); rfl) | ((with_reducible apply w_var); rfl) | ((with_reducible apply w_glb); rfl) | ((with_reducible apply w_calk); rfl) | ((fail_if_success (with_reducible show ∃ k, opC .NotIn _ _ _ = some k ∧ _)); (fail_if_success (with_reducible show ∃ k, opC .In _ _ _ = some k ∧ _)); refine ⟨_, rfl, ?_⟩)))
      have l1 := (List.getElem?_eq_some_iff.mp hn).1
      refine ⟨by simp, ?_⟩
      (repeat (first | ((with_reducible show Wp (evSs _ _ (List.set _ _ _) _) _); simp only [List.set_cons_succ, List.set_cons_zero]) | with_reducible (first | apply s_cons | apply th_nx | apply th_rt | apply th_bk | apply th_ct | apply s_nil | apply s_set | apply s_par2 | apply s_seti | apply s_ife | apply s_ret | apply s_retN | apply s_exp | apply s_brk | apply s_cnt | apply s_pss | apply s_loop | apply rt_rt | apply rt_nx | apply wh_nx | apply wh_ct | apply wh_bk | apply wh_rt | apply w_int | apply w_non | apply w_bl | apply w_str | apply w_tup | apply w_lst | apply w_dct0 | apply es_nil | apply es_cons | apply w_bin | apply w_neg | apply w_cmp | apply w_chn | apply w_and | apply w_or | apply w_not | apply w_ife | apply w_idx | apply w_slc | apply w_rev | apply w_call | apply w_bi | apply w_isi | apply w_mth | apply w_lc | apply o_no | apply o_so | apply ts_nil | apply ts_cons | apply i_val | apply i_rng1 | apply i_rng2 | apply i_enu | apply i_zip | apply o_addI | apply o_subI | apply b_lenT | apply b_lenR | apply b_abs | apply b_intI | apply b_tupT | apply b_listT | apply l_tup | apply l_rol | apply bo_bl) | ((with_reducible apply s_augA); rfl) | ((with_reducible apply s_augS); rfl) | ((with_reducible apply w_var); rfl) | ((with_reducible apply w_glb); rfl) | ((with_reducible apply w_calk); rfl) | ((fail_if_success (with_reducible show ∃ k, opC .NotIn _ _ _ = some k ∧ _)); (fail_if_success (with_reducible show ∃ k, opC .In _ _ _ = some k ∧ _)); refine ⟨_, rfl, ?_⟩)))
      refine ⟨some x, some (.loc s'.length), x5, j + 1, s2.length, s'.length, ?_, by omega, by have := K.1; have := K2.1; omega, K.1, ?_, push_old hn, (K.trans K2).push _, by simp only [List.length_cons] at hj; omega⟩
      · try simp only [List.set_cons_succ, List.set_cons_zero]
      · have e : (upto j).map wD ++ (nextL (lev1 j)).map wD = (upto (j + 1)).map wD := by
          rw [← List.map_append]; rfl
        rw [e]
        exact push_at
  · rintro e s' ⟨x1, x4, x5, j, a, c, rfl, ac, ha0, hc0, ha, hc, K, hj⟩
    refine ⟨fo_none, ?_⟩
    (repeat (first | ((with_reducible show Wp (evSs _ _ (List.set _ _ _) _) _); simp only [List.set_cons_succ, List.set_cons_zero]) | with_reducible (first | apply s_cons | apply th_nx | apply th_rt | apply th_bk | apply th_ct | apply s_nil | apply s_set | apply s_par2 | apply s_seti | apply s_ife | apply s_ret | apply s_retN | apply s_exp | apply s_brk | apply s_cnt | apply s_pss | apply s_loop | apply rt_rt | apply rt_nx | apply wh_nx | apply wh_ct | apply wh_bk | apply wh_rt | apply w_int | apply w_non | apply w_bl | apply w_str | apply w_tup | apply w_lst | apply w_dct0 | apply es_nil | apply es_cons | apply w_bin | apply w_neg | apply w_cmp | apply w_chn | apply w_and | apply w_or | apply w_not | apply w_ife | apply w_idx | apply w_slc | apply w_rev | apply w_call | apply w_bi | apply w_isi | apply w_mth | apply w_lc | apply o_no | apply o_so | apply ts_nil | apply ts_cons | apply i_val | apply i_rng1 | apply i_rng2 | apply i_enu | apply i_zip | apply o_addI | apply o_subI | apply b_lenT | apply b_lenR | apply b_abs | apply b_intI | apply b_tupT | apply b_listT | apply l_tup | apply l_rol | apply bo_bl) | ((with_reducible apply s_augA); rfl) | ((with_reducible apply s_augS); rfl) | ((with_reducible apply w_var); rfl) | ((with_reducible apply w_glb); rfl) | ((with_reducible apply w_calk); rfl) | ((fail_if_success (with_reducible show ∃ k, opC .NotIn _ _ _ = some k ∧ _)); (fail_if_success (with_reducible show ∃ k, opC .In _ _ _ = some k ∧ _)); refine ⟨_, rfl, ?_⟩)))
    refine b_tupL ha ?_
    (repeat (first | ((with_reducible show Wp (evSs _ _ (List.set _ _ _) _) _); simp only [List.set_cons_succ, List.set_cons_zero]) | with_reducible (first | apply s_cons | apply th_nx | apply th_rt | apply th_bk | apply th_ct | apply s_nil | apply s_set | apply s_par2 | apply s_seti | apply s_ife | apply s_ret | apply s_retN | apply s_exp | apply s_brk | apply s_cnt | apply s_pss | apply s_loop | apply rt_rt | apply rt_nx | apply wh_nx | apply wh_ct | apply wh_bk | apply wh_rt | apply w_int | apply w_non | apply w_bl | apply w_str | apply w_tup | apply w_lst | apply w_dct0 | apply es_nil | apply es_cons | apply w_bin | apply w_neg | apply w_cmp | apply w_chn | apply w_and | apply w_or | apply w_not | apply w_ife | apply w_idx | apply w_slc | apply w_rev | apply w_call | apply w_bi | apply w_isi | apply w_mth | apply w_lc | apply o_no | apply o_so | apply ts_nil | apply ts_cons | apply i_val | apply i_rng1 | apply i_rng2 | apply i_enu | apply i_zip | apply o_addI | apply o_subI | apply b_lenT | apply b_lenR | apply b_abs | apply b_intI | apply b_tupT | apply b_listT | apply l_tup | apply l_rol | apply bo_bl) | ((with_reducible apply s_augA); rfl) | ((with_reducible apply s_augS); rfl) | ((with_reducible apply w_var); rfl) | ((with_reducible apply w_glb); rfl) | ((with_reducible apply w_calk); rfl) | ((fail_if_success (with_reducible show ∃ k, opC .NotIn _ _ _ = some k ∧ _)); (fail_if_success (with_reducible show ∃ k, opC .In _ _ _ = some k ∧ _)); refine ⟨_, rfl, ?_⟩)))
    refine ⟨?_, K⟩
    have : j = k := hj
    rw [this]
  · show 0 + (rangeD 0 (k : Int).toNat).length = k
    rw [range_len]
    omega
end K01
set_option Elab.async false
set_option linter.all false
set_option maxRecDepth 100000
set_option maxHeartbeats 8000000
namespace K01
open PySem PySem.Spec PyProof.Rows L2 Iv
theorem f17 : P.fn[17]? = some ⟨1, 7, b17⟩ := rfl
theorem pu_int {i : Int} {k n : Nat} (h : i.natAbs < 10 ^ 99) : Pu 100 k n (.int i) := va_int h (by decide) (by decide)
theorem pus_ints {k : Nat} : ∀ {bs : List Int}, (∀ b ∈ bs, b.natAbs < 10 ^ 99) → Pus 100 k bs.length (bs.map D.int)
  | [], _ => vas_nil
  | b :: bs, h => by
    have := vas_cons (n := 0) (pu_int (k := k) (h b List.mem_cons_self)) (pus_ints fun c hc => h c (List.mem_cons_of_mem _ hc))
    rw [List.length_cons, Nat.add_comm bs.length 1]
    simpa using this
theorem bits_small {bs : List Int} (h : Bits bs) : ∀ b ∈ bs, b.natAbs < 10 ^ 99 := fun b hb => by
  have : (10 : Nat) ^ 99 > 1 := by decide
  rcases h b hb with rfl | rfl <;> simp
theorem plv_small {bs : List Int} (h : Bits bs) (hl : bs.length ≤ 300) : (plv bs - 1).natAbs < 10 ^ 99 := by
  have ⟨h1, h2⟩ := plv_in h
  have h3 := pow_log (k := bs.length + 1) (m := 301) (by omega)
  have h4 : (1 : Int) ≤ (2 : Int) ^ bs.length := by
    have := Nat.one_le_two_pow (n := bs.length)
    have e : ((2 ^ bs.length : Nat) : Int) = (2 : Int) ^ bs.length := by simp
    omega
  have h5 : (2 : Int) ^ 301 < (10 : Int) ^ 99 := by decide
  have h6 : (10 : Int) ^ 99 = ((10 ^ 99 : Nat) : Int) := by simp
  omega
theorem places_ok {n q b : Nat} {s : Sto} (B : Bag q b s) :
    Wp (run P (n + 3) 17 [.loc b] s) fun d s' => d = .bl true ∧ Bag q b s' ∧ Kx [q, b] s s' := by
  refine run_fn f17 rfl (by decide) ?_
  unfold b17
  show Wp (evSs _ _ [some (.loc b), none, none, none, none, none, none] s) _
  have push : ∀ {s1 : Sto} (c : C), Bag q b s1 → Bag q b (s1 ++ [c]) := fun c B => B.kx (Kx.refl.push c) (X := []) (by simp) (by simp)
  have off : ∀ {s1 : Sto}, Bag q b s1 → s1.length ≠ q ∧ s1.length ≠ b := fun B => by have := B.lt; omega
  (repeat (first | ((with_reducible show Wp (evSs _ _ (List.set _ _ _) _) _); simp only [List.set_cons_succ, List.set_cons_zero]) | with_reducible (first | apply s_cons | apply th_nx | apply th_rt | apply th_bk | apply th_ct | apply s_nil | apply s_set | apply s_par2 | apply s_seti | apply s_ife | apply s_ret | apply s_retN | apply s_exp | apply s_brk | apply s_cnt | apply s_pss | apply s_loop | apply rt_rt | apply rt_nx | apply wh_nx | apply wh_ct | apply wh_bk | apply wh_rt | apply w_int | apply w_non | apply w_bl | apply w_str | apply w_tup | apply w_lst | apply w_dct0 | apply es_nil | apply es_cons | apply w_bin | apply w_neg | apply w_cmp | apply w_chn | apply w_and | apply w_or | apply w_not | apply w_ife | apply w_idx | apply w_slc | apply w_rev | apply w_call | apply w_bi | apply w_isi | apply w_mth | apply w_lc | apply o_no | apply o_so | apply ts_nil | apply ts_cons | apply i_val | apply i_rng1 | apply i_rng2 | apply i_enu | apply i_zip | apply o_addI | apply o_subI | apply b_lenT | apply b_lenR | apply b_abs | apply b_intI | apply b_tupT | apply b_listT | apply l_tup | apply l_rol | apply bo_bl) | ((with_reducible apply s_augA); rfl) | ((with_reducible apply s_augS); rfl) | ((with_reducible apply w_var); rfl) | ((with_reducible apply w_glb); rfl) | ((with_reducible apply w_calk); rfl) | ((fail_if_success (with_reducible show ∃ k, opC .NotIn _ _ _ = some k ∧ _)); (fail_if_success (with_reducible show ∃ k, opC .In _ _ _ = some k ∧ _)); refine ⟨_, rfl, ?_⟩)))
  refine wp_mono (pick_ok f9 f8 rfl (push _ B) push_at (off B).1 (off B).2 (by simp) (by simp)) ?_
  rintro d s1 ⟨hd, B1, K1⟩
  have K1 := (Kx.refl.push (X := [q, b]) _).trans K1
  obtain ⟨m, rfl, m0, m1⟩ : ∃ m : Int, d = .int m ∧ 0 ≤ m ∧ m ≤ 300 := by
    simp only [List.mem_cons, List.not_mem_nil, or_false] at hd
    rcases hd with rfl | rfl | rfl | rfl <;> exact ⟨_, rfl, by decide, by decide⟩
  (repeat (first | ((with_reducible show Wp (evSs _ _ (List.set _ _ _) _) _); simp only [List.set_cons_succ, List.set_cons_zero]) | with_reducible (first | apply s_cons | apply th_nx | apply th_rt | apply th_bk | apply th_ct | apply s_nil | apply s_set | apply s_par2 | apply s_seti | apply s_ife | apply s_ret | apply s_retN | apply s_exp | apply s_brk | apply s_cnt | apply s_pss | apply s_loop | apply rt_rt | apply rt_nx | apply wh_nx | apply wh_ct | apply wh_bk | apply wh_rt | apply w_int | apply w_non | apply w_bl | apply w_str | apply w_tup | apply w_lst | apply w_dct0 | apply es_nil | apply es_cons | apply w_bin | apply w_neg | apply w_cmp | apply w_chn | apply w_and | apply w_or | apply w_not | apply w_ife | apply w_idx | apply w_slc | apply w_rev | apply w_call | apply w_bi | apply w_isi | apply w_mth | apply w_lc | apply o_no | apply o_so | apply ts_nil | apply ts_cons | apply i_val | apply i_rng1 | apply i_rng2 | apply i_enu | apply i_zip | apply o_addI | apply o_subI | apply b_lenT | apply b_lenR | apply b_abs | apply b_intI | apply b_tupT | apply b_listT | apply l_tup | apply l_rol | apply bo_bl) | ((with_reducible apply s_augA); rfl) | ((with_reducible apply s_augS); rfl) | ((with_reducible apply w_var); rfl) | ((with_reducible apply w_glb); rfl) | ((with_reducible apply w_calk); rfl) | ((fail_if_success (with_reducible show ∃ k, opC .NotIn _ _ _ = some k ∧ _)); (fail_if_success (with_reducible show ∃ k, opC .In _ _ _ = some k ∧ _)); refine ⟨_, rfl, ?_⟩)))
  refine wp_mono (word_ok B1 m0 m1) ?_
  rintro d s2 ⟨bs, rfl, hb, hl, B2, K2⟩
  have K2 := K1.trans K2
  have hl3 : bs.length ≤ 300 := by omega
  (repeat (first | ((with_reducible show Wp (evSs _ _ (List.set _ _ _) _) _); simp only [List.set_cons_succ, List.set_cons_zero]) | with_reducible (first | apply s_cons | apply th_nx | apply th_rt | apply th_bk | apply th_ct | apply s_nil | apply s_set | apply s_par2 | apply s_seti | apply s_ife | apply s_ret | apply s_retN | apply s_exp | apply s_brk | apply s_cnt | apply s_pss | apply s_loop | apply rt_rt | apply rt_nx | apply wh_nx | apply wh_ct | apply wh_bk | apply wh_rt | apply w_int | apply w_non | apply w_bl | apply w_str | apply w_tup | apply w_lst | apply w_dct0 | apply es_nil | apply es_cons | apply w_bin | apply w_neg | apply w_cmp | apply w_chn | apply w_and | apply w_or | apply w_not | apply w_ife | apply w_idx | apply w_slc | apply w_rev | apply w_call | apply w_bi | apply w_isi | apply w_mth | apply w_lc | apply o_no | apply o_so | apply ts_nil | apply ts_cons | apply i_val | apply i_rng1 | apply i_rng2 | apply i_enu | apply i_zip | apply o_addI | apply o_subI | apply b_lenT | apply b_lenR | apply b_abs | apply b_intI | apply b_tupT | apply b_listT | apply l_tup | apply l_rol | apply bo_bl) | ((with_reducible apply s_augA); rfl) | ((with_reducible apply s_augS); rfl) | ((with_reducible apply w_var); rfl) | ((with_reducible apply w_glb); rfl) | ((with_reducible apply w_calk); rfl) | ((fail_if_success (with_reducible show ∃ k, opC .NotIn _ _ _ = some k ∧ _)); (fail_if_success (with_reducible show ∃ k, opC .In _ _ _ = some k ∧ _)); refine ⟨_, rfl, ?_⟩)))
  refine wp_mono (place_ok f16 hb (by omega)) ?_
  rintro d s3 ⟨rfl, rfl⟩
  (repeat (first | ((with_reducible show Wp (evSs _ _ (List.set _ _ _) _) _); simp only [List.set_cons_succ, List.set_cons_zero]) | with_reducible (first | apply s_cons | apply th_nx | apply th_rt | apply th_bk | apply th_ct | apply s_nil | apply s_set | apply s_par2 | apply s_seti | apply s_ife | apply s_ret | apply s_retN | apply s_exp | apply s_brk | apply s_cnt | apply s_pss | apply s_loop | apply rt_rt | apply rt_nx | apply wh_nx | apply wh_ct | apply wh_bk | apply wh_rt | apply w_int | apply w_non | apply w_bl | apply w_str | apply w_tup | apply w_lst | apply w_dct0 | apply es_nil | apply es_cons | apply w_bin | apply w_neg | apply w_cmp | apply w_chn | apply w_and | apply w_or | apply w_not | apply w_ife | apply w_idx | apply w_slc | apply w_rev | apply w_call | apply w_bi | apply w_isi | apply w_mth | apply w_lc | apply o_no | apply o_so | apply ts_nil | apply ts_cons | apply i_val | apply i_rng1 | apply i_rng2 | apply i_enu | apply i_zip | apply o_addI | apply o_subI | apply b_lenT | apply b_lenR | apply b_abs | apply b_intI | apply b_tupT | apply b_listT | apply l_tup | apply l_rol | apply bo_bl) | ((with_reducible apply s_augA); rfl) | ((with_reducible apply s_augS); rfl) | ((with_reducible apply w_var); rfl) | ((with_reducible apply w_glb); rfl) | ((with_reducible apply w_calk); rfl) | ((fail_if_success (with_reducible show ∃ k, opC .NotIn _ _ _ = some k ∧ _)); (fail_if_success (with_reducible show ∃ k, opC .In _ _ _ = some k ∧ _)); refine ⟨_, rfl, ?_⟩)))
  refine fo_inv (fun xs e s' => ∃ (x : Option D) (k : Nat), e = [some (.loc b), some (.tup (bs.map D.int)), some (.int (plv bs - 1)), some (.int ((2 : Int) ^ k)), x, none, none] ∧ k + xs.length = bs.length ∧ s' = s3) ?_ ?_ ⟨none, 0, rfl, by rw [Nat.zero_add]; exact List.length_map .., rfl⟩
  · rintro x xs e s' ⟨x', k, rfl, hk, rfl⟩
    simp only [List.length_cons] at hk
    refine ⟨fo_none, _, rfl, ?_⟩
    (repeat (first | ((with_reducible show Wp (evSs _ _ (List.set _ _ _) _) _); simp only [List.set_cons_succ, List.set_cons_zero]) | with_reducible (first | apply s_cons | apply th_nx | apply th_rt | apply th_bk | apply th_ct | apply s_nil | apply s_set | apply s_par2 | apply s_seti | apply s_ife | apply s_ret | apply s_retN | apply s_exp | apply s_brk | apply s_cnt | apply s_pss | apply s_loop | apply rt_rt | apply rt_nx | apply wh_nx | apply wh_ct | apply wh_bk | apply wh_rt | apply w_int | apply w_non | apply w_bl | apply w_str | apply w_tup | apply w_lst | apply w_dct0 | apply es_nil | apply es_cons | apply w_bin | apply w_neg | apply w_cmp | apply w_chn | apply w_and | apply w_or | apply w_not | apply w_ife | apply w_idx | apply w_slc | apply w_rev | apply w_call | apply w_bi | apply w_isi | apply w_mth | apply w_lc | apply o_no | apply o_so | apply ts_nil | apply ts_cons | apply i_val | apply i_rng1 | apply i_rng2 | apply i_enu | apply i_zip | apply o_addI | apply o_subI | apply b_lenT | apply b_lenR | apply b_abs | apply b_intI | apply b_tupT | apply b_listT | apply l_tup | apply l_rol | apply bo_bl) | ((with_reducible apply s_augA); rfl) | ((with_reducible apply s_augS); rfl) | ((with_reducible apply w_var); rfl) | ((with_reducible apply w_glb); rfl) | ((with_reducible apply w_calk); rfl) | ((fail_if_success (with_reducible show ∃ k, opC .NotIn _ _ _ = some k ∧ _)); (fail_if_success (with_reducible show ∃ k, opC .In _ _ _ = some k ∧ _)); refine ⟨_, rfl, ?_⟩)))
    refine o_mulI (by have := log_of (a := (2 : Int) ^ k) (k := k + 1) (Int.pow_nonneg (by decide)) (by rw [Int.pow_succ]; have := Int.pow_pos (n := 2) (m := k) (by decide); omega) (by omega); have : (2 : Int).natAbs.log2 = 1 := by decide
                      omega) ?_
    (repeat (first | ((with_reducible show Wp (evSs _ _ (List.set _ _ _) _) _); simp only [List.set_cons_succ, List.set_cons_zero]) | with_reducible (first | apply s_cons | apply th_nx | apply th_rt | apply th_bk | apply th_ct | apply s_nil | apply s_set | apply s_par2 | apply s_seti | apply s_ife | apply s_ret | apply s_retN | apply s_exp | apply s_brk | apply s_cnt | apply s_pss | apply s_loop | apply rt_rt | apply rt_nx | apply wh_nx | apply wh_ct | apply wh_bk | apply wh_rt | apply w_int | apply w_non | apply w_bl | apply w_str | apply w_tup | apply w_lst | apply w_dct0 | apply es_nil | apply es_cons | apply w_bin | apply w_neg | apply w_cmp | apply w_chn | apply w_and | apply w_or | apply w_not | apply w_ife | apply w_idx | apply w_slc | apply w_rev | apply w_call | apply w_bi | apply w_isi | apply w_mth | apply w_lc | apply o_no | apply o_so | apply ts_nil | apply ts_cons | apply i_val | apply i_rng1 | apply i_rng2 | apply i_enu | apply i_zip | apply o_addI | apply o_subI | apply b_lenT | apply b_lenR | apply b_abs | apply b_intI | apply b_tupT | apply b_listT | apply l_tup | apply l_rol | apply bo_bl) | ((with_reducible apply s_augA); rfl) | ((with_reducible apply s_augS); rfl) | ((with_reducible apply w_var); rfl) | ((with_reducible apply w_glb); rfl) | ((with_reducible apply w_calk); rfl) | ((fail_if_success (with_reducible show ∃ k, opC .NotIn _ _ _ = some k ∧ _)); (fail_if_success (with_reducible show ∃ k, opC .In _ _ _ = some k ∧ _)); refine ⟨_, rfl, ?_⟩)))
    refine ⟨some x, k + 1, ?_, by omega, rfl⟩
    try simp only [List.set_cons_succ, List.set_cons_zero]
    rw [Int.pow_succ, Int.mul_comm]
  rintro e s' ⟨x, k, rfl, hk, rfl⟩
  obtain rfl : k = bs.length := hk
  refine ⟨fo_none, ?_⟩
  have pv := plv_in hb
  have ps : Pu 100 0 0 (.int (plv bs - 1)) := pu_int (plv_small hb hl3)
  have pp : Pus 100 0 2 [.int (plv bs - 1), .int (plv bs - 1)] := vas_cons (n := 0) ps (vas_cons (n := 0) (m := 0) ps vas_nil)
  (repeat (first | ((with_reducible show Wp (evSs _ _ (List.set _ _ _) _) _); simp only [List.set_cons_succ, List.set_cons_zero]) | with_reducible (first | apply s_cons | apply th_nx | apply th_rt | apply th_bk | apply th_ct | apply s_nil | apply s_set | apply s_par2 | apply s_seti | apply s_ife | apply s_ret | apply s_retN | apply s_exp | apply s_brk | apply s_cnt | apply s_pss | apply s_loop | apply rt_rt | apply rt_nx | apply wh_nx | apply wh_ct | apply wh_bk | apply wh_rt | apply w_int | apply w_non | apply w_bl | apply w_str | apply w_tup | apply w_lst | apply w_dct0 | apply es_nil | apply es_cons | apply w_bin | apply w_neg | apply w_cmp | apply w_chn | apply w_and | apply w_or | apply w_not | apply w_ife | apply w_idx | apply w_slc | apply w_rev | apply w_call | apply w_bi | apply w_isi | apply w_mth | apply w_lc | apply o_no | apply o_so | apply ts_nil | apply ts_cons | apply i_val | apply i_rng1 | apply i_rng2 | apply i_enu | apply i_zip | apply o_addI | apply o_subI | apply b_lenT | apply b_lenR | apply b_abs | apply b_intI | apply b_tupT | apply b_listT | apply l_tup | apply l_rol | apply bo_bl) | ((with_reducible apply s_augA); rfl) | ((with_reducible apply s_augS); rfl) | ((with_reducible apply w_var); rfl) | ((with_reducible apply w_glb); rfl) | ((with_reducible apply w_calk); rfl) | ((fail_if_success (with_reducible show ∃ k, opC .NotIn _ _ _ = some k ∧ _)); (fail_if_success (with_reducible show ∃ k, opC .In _ _ _ = some k ∧ _)); refine ⟨_, rfl, ?_⟩)))
  refine wp_mono (place_ok f6 hb (by omega)) ?_
  rintro d s3 ⟨rfl, rfl⟩
  (repeat (first | ((with_reducible show Wp (evSs _ _ (List.set _ _ _) _) _); simp only [List.set_cons_succ, List.set_cons_zero]) | with_reducible (first | apply s_cons | apply th_nx | apply th_rt | apply th_bk | apply th_ct | apply s_nil | apply s_set | apply s_par2 | apply s_seti | apply s_ife | apply s_ret | apply s_retN | apply s_exp | apply s_brk | apply s_cnt | apply s_pss | apply s_loop | apply rt_rt | apply rt_nx | apply wh_nx | apply wh_ct | apply wh_bk | apply wh_rt | apply w_int | apply w_non | apply w_bl | apply w_str | apply w_tup | apply w_lst | apply w_dct0 | apply es_nil | apply es_cons | apply w_bin | apply w_neg | apply w_cmp | apply w_chn | apply w_and | apply w_or | apply w_not | apply w_ife | apply w_idx | apply w_slc | apply w_rev | apply w_call | apply w_bi | apply w_isi | apply w_mth | apply w_lc | apply o_no | apply o_so | apply ts_nil | apply ts_cons | apply i_val | apply i_rng1 | apply i_rng2 | apply i_enu | apply i_zip | apply o_addI | apply o_subI | apply b_lenT | apply b_lenR | apply b_abs | apply b_intI | apply b_tupT | apply b_listT | apply l_tup | apply l_rol | apply bo_bl) | ((with_reducible apply s_augA); rfl) | ((with_reducible apply s_augS); rfl) | ((with_reducible apply w_var); rfl) | ((with_reducible apply w_glb); rfl) | ((with_reducible apply w_calk); rfl) | ((fail_if_success (with_reducible show ∃ k, opC .NotIn _ _ _ = some k ∧ _)); (fail_if_success (with_reducible show ∃ k, opC .In _ _ _ = some k ∧ _)); refine ⟨_, rfl, ?_⟩)))
  refine wp_mono (place_ok f6 hb (by omega)) ?_
  rintro d s4 ⟨rfl, rfl⟩
  (repeat (first | ((with_reducible show Wp (evSs _ _ (List.set _ _ _) _) _); simp only [List.set_cons_succ, List.set_cons_zero]) | with_reducible (first | apply s_cons | apply th_nx | apply th_rt | apply th_bk | apply th_ct | apply s_nil | apply s_set | apply s_par2 | apply s_seti | apply s_ife | apply s_ret | apply s_retN | apply s_exp | apply s_brk | apply s_cnt | apply s_pss | apply s_loop | apply rt_rt | apply rt_nx | apply wh_nx | apply wh_ct | apply wh_bk | apply wh_rt | apply w_int | apply w_non | apply w_bl | apply w_str | apply w_tup | apply w_lst | apply w_dct0 | apply es_nil | apply es_cons | apply w_bin | apply w_neg | apply w_cmp | apply w_chn | apply w_and | apply w_or | apply w_not | apply w_ife | apply w_idx | apply w_slc | apply w_rev | apply w_call | apply w_bi | apply w_isi | apply w_mth | apply w_lc | apply o_no | apply o_so | apply ts_nil | apply ts_cons | apply i_val | apply i_rng1 | apply i_rng2 | apply i_enu | apply i_zip | apply o_addI | apply o_subI | apply b_lenT | apply b_lenR | apply b_abs | apply b_intI | apply b_tupT | apply b_listT | apply l_tup | apply l_rol | apply bo_bl) | ((with_reducible apply s_augA); rfl) | ((with_reducible apply s_augS); rfl) | ((with_reducible apply w_var); rfl) | ((with_reducible apply w_glb); rfl) | ((with_reducible apply w_calk); rfl) | ((fail_if_success (with_reducible show ∃ k, opC .NotIn _ _ _ = some k ∧ _)); (fail_if_success (with_reducible show ∃ k, opC .In _ _ _ = some k ∧ _)); refine ⟨_, rfl, ?_⟩)))
  refine b_repr (rep_pure push_at pp (by decide) (by decide) (by rw [sizeLine_eq]; decide)) ?_
  (repeat (first | ((with_reducible show Wp (evSs _ _ (List.set _ _ _) _) _); simp only [List.set_cons_succ, List.set_cons_zero]) | with_reducible (first | apply s_cons | apply th_nx | apply th_rt | apply th_bk | apply th_ct | apply s_nil | apply s_set | apply s_par2 | apply s_seti | apply s_ife | apply s_ret | apply s_retN | apply s_exp | apply s_brk | apply s_cnt | apply s_pss | apply s_loop | apply rt_rt | apply rt_nx | apply wh_nx | apply wh_ct | apply wh_bk | apply wh_rt | apply w_int | apply w_non | apply w_bl | apply w_str | apply w_tup | apply w_lst | apply w_dct0 | apply es_nil | apply es_cons | apply w_bin | apply w_neg | apply w_cmp | apply w_chn | apply w_and | apply w_or | apply w_not | apply w_ife | apply w_idx | apply w_slc | apply w_rev | apply w_call | apply w_bi | apply w_isi | apply w_mth | apply w_lc | apply o_no | apply o_so | apply ts_nil | apply ts_cons | apply i_val | apply i_rng1 | apply i_rng2 | apply i_enu | apply i_zip | apply o_addI | apply o_subI | apply b_lenT | apply b_lenR | apply b_abs | apply b_intI | apply b_tupT | apply b_listT | apply l_tup | apply l_rol | apply bo_bl) | ((with_reducible apply s_augA); rfl) | ((with_reducible apply s_augS); rfl) | ((with_reducible apply w_var); rfl) | ((with_reducible apply w_glb); rfl) | ((with_reducible apply w_calk); rfl) | ((fail_if_success (with_reducible show ∃ k, opC .NotIn _ _ _ = some k ∧ _)); (fail_if_success (with_reducible show ∃ k, opC .In _ _ _ = some k ∧ _)); refine ⟨_, rfl, ?_⟩)))
  refine b_repr (rep_pure push_at pp (by decide) (by decide) (by rw [sizeLine_eq]; decide)) ?_
  (repeat (first | ((with_reducible show Wp (evSs _ _ (List.set _ _ _) _) _); simp only [List.set_cons_succ, List.set_cons_zero]) | with_reducible (first | apply s_cons | apply th_nx | apply th_rt | apply th_bk | apply th_ct | apply s_nil | apply s_set | apply s_par2 | apply s_seti | apply s_ife | apply s_ret | apply s_retN | apply s_exp | apply s_brk | apply s_cnt | apply s_pss | apply s_loop | apply rt_rt | apply rt_nx | apply wh_nx | apply wh_ct | apply wh_bk | apply wh_rt | apply w_int | apply w_non | apply w_bl | apply w_str | apply w_tup | apply w_lst | apply w_dct0 | apply es_nil | apply es_cons | apply w_bin | apply w_neg | apply w_cmp | apply w_chn | apply w_and | apply w_or | apply w_not | apply w_ife | apply w_idx | apply w_slc | apply w_rev | apply w_call | apply w_bi | apply w_isi | apply w_mth | apply w_lc | apply o_no | apply o_so | apply ts_nil | apply ts_cons | apply i_val | apply i_rng1 | apply i_rng2 | apply i_enu | apply i_zip | apply o_addI | apply o_subI | apply b_lenT | apply b_lenR | apply b_abs | apply b_intI | apply b_tupT | apply b_listT | apply l_tup | apply l_rol | apply bo_bl) | ((with_reducible apply s_augA); rfl) | ((with_reducible apply s_augS); rfl) | ((with_reducible apply w_var); rfl) | ((with_reducible apply w_glb); rfl) | ((with_reducible apply w_calk); rfl) | ((fail_if_success (with_reducible show ∃ k, opC .NotIn _ _ _ = some k ∧ _)); (fail_if_success (with_reducible show ∃ k, opC .In _ _ _ = some k ∧ _)); refine ⟨_, rfl, ?_⟩)))
  refine ⟨fun e => by simp at e, fun _ => ?_⟩
  (repeat (first | ((with_reducible show Wp (evSs _ _ (List.set _ _ _) _) _); simp only [List.set_cons_succ, List.set_cons_zero]) | with_reducible (first | apply s_cons | apply th_nx | apply th_rt | apply th_bk | apply th_ct | apply s_nil | apply s_set | apply s_par2 | apply s_seti | apply s_ife | apply s_ret | apply s_retN | apply s_exp | apply s_brk | apply s_cnt | apply s_pss | apply s_loop | apply rt_rt | apply rt_nx | apply wh_nx | apply wh_ct | apply wh_bk | apply wh_rt | apply w_int | apply w_non | apply w_bl | apply w_str | apply w_tup | apply w_lst | apply w_dct0 | apply es_nil | apply es_cons | apply w_bin | apply w_neg | apply w_cmp | apply w_chn | apply w_and | apply w_or | apply w_not | apply w_ife | apply w_idx | apply w_slc | apply w_rev | apply w_call | apply w_bi | apply w_isi | apply w_mth | apply w_lc | apply o_no | apply o_so | apply ts_nil | apply ts_cons | apply i_val | apply i_rng1 | apply i_rng2 | apply i_enu | apply i_zip | apply o_addI | apply o_subI | apply b_lenT | apply b_lenR | apply b_abs | apply b_intI | apply b_tupT | apply b_listT | apply l_tup | apply l_rol | apply bo_bl) | ((with_reducible apply s_augA); rfl) | ((with_reducible apply s_augS); rfl) | ((with_reducible apply w_var); rfl) | ((with_reducible apply w_glb); rfl) | ((with_reducible apply w_calk); rfl) | ((fail_if_success (with_reducible show ∃ k, opC .NotIn _ _ _ = some k ∧ _)); (fail_if_success (with_reducible show ∃ k, opC .In _ _ _ = some k ∧ _)); refine ⟨_, rfl, ?_⟩)))
  have Kb : ∀ {X : List Nat} {a c : Sto} (h : Kx X a c) (c1 c2 : C), Kx X a (c ++ [c1] ++ [c2]) := fun h c1 c2 => (h.push c1).push c2
  refine ⟨fun _ => ?_, fun e => by simp at e; omega⟩
  (repeat (first | ((with_reducible show Wp (evSs _ _ (List.set _ _ _) _) _); simp only [List.set_cons_succ, List.set_cons_zero]) | with_reducible (first | apply s_cons | apply th_nx | apply th_rt | apply th_bk | apply th_ct | apply s_nil | apply s_set | apply s_par2 | apply s_seti | apply s_ife | apply s_ret | apply s_retN | apply s_exp | apply s_brk | apply s_cnt | apply s_pss | apply s_loop | apply rt_rt | apply rt_nx | apply wh_nx | apply wh_ct | apply wh_bk | apply wh_rt | apply w_int | apply w_non | apply w_bl | apply w_str | apply w_tup | apply w_lst | apply w_dct0 | apply es_nil | apply es_cons | apply w_bin | apply w_neg | apply w_cmp | apply w_chn | apply w_and | apply w_or | apply w_not | apply w_ife | apply w_idx | apply w_slc | apply w_rev | apply w_call | apply w_bi | apply w_isi | apply w_mth | apply w_lc | apply o_no | apply o_so | apply ts_nil | apply ts_cons | apply i_val | apply i_rng1 | apply i_rng2 | apply i_enu | apply i_zip | apply o_addI | apply o_subI | apply b_lenT | apply b_lenR | apply b_abs | apply b_intI | apply b_tupT | apply b_listT | apply l_tup | apply l_rol | apply bo_bl) | ((with_reducible apply s_augA); rfl) | ((with_reducible apply s_augS); rfl) | ((with_reducible apply w_var); rfl) | ((with_reducible apply w_glb); rfl) | ((with_reducible apply w_calk); rfl) | ((fail_if_success (with_reducible show ∃ k, opC .NotIn _ _ _ = some k ∧ _)); (fail_if_success (with_reducible show ∃ k, opC .In _ _ _ = some k ∧ _)); refine ⟨_, rfl, ?_⟩)))
  refine o_mulI (by have := log_of (a := (2 : Int) ^ bs.length) (k := bs.length + 1) (Int.pow_nonneg (by decide)) (by rw [Int.pow_succ]; have := Int.pow_pos (n := 2) (m := bs.length) (by decide); omega) (by omega); have : (2 : Int).natAbs.log2 = 1 := by decide
                    omega) ?_
  (repeat (first | ((with_reducible show Wp (evSs _ _ (List.set _ _ _) _) _); simp only [List.set_cons_succ, List.set_cons_zero]) | with_reducible (first | apply s_cons | apply th_nx | apply th_rt | apply th_bk | apply th_ct | apply s_nil | apply s_set | apply s_par2 | apply s_seti | apply s_ife | apply s_ret | apply s_retN | apply s_exp | apply s_brk | apply s_cnt | apply s_pss | apply s_loop | apply rt_rt | apply rt_nx | apply wh_nx | apply wh_ct | apply wh_bk | apply wh_rt | apply w_int | apply w_non | apply w_bl | apply w_str | apply w_tup | apply w_lst | apply w_dct0 | apply es_nil | apply es_cons | apply w_bin | apply w_neg | apply w_cmp | apply w_chn | apply w_and | apply w_or | apply w_not | apply w_ife | apply w_idx | apply w_slc | apply w_rev | apply w_call | apply w_bi | apply w_isi | apply w_mth | apply w_lc | apply o_no | apply o_so | apply ts_nil | apply ts_cons | apply i_val | apply i_rng1 | apply i_rng2 | apply i_enu | apply i_zip | apply o_addI | apply o_subI | apply b_lenT | apply b_lenR | apply b_abs | apply b_intI | apply b_tupT | apply b_listT | apply l_tup | apply l_rol | apply bo_bl) | ((with_reducible apply s_augA); rfl) | ((with_reducible apply s_augS); rfl) | ((with_reducible apply w_var); rfl) | ((with_reducible apply w_glb); rfl) | ((with_reducible apply w_calk); rfl) | ((fail_if_success (with_reducible show ∃ k, opC .NotIn _ _ _ = some k ∧ _)); (fail_if_success (with_reducible show ∃ k, opC .In _ _ _ = some k ∧ _)); refine ⟨_, rfl, ?_⟩)))
  have up : plv bs - 1 ≤ 2 * (2 : Int) ^ bs.length - 2 := by
    have := pv.2
    rw [Int.pow_succ] at this
    omega
  refine ⟨fun e => by simp at e; omega, fun _ => ?_⟩
  (repeat (first | ((with_reducible show Wp (evSs _ _ (List.set _ _ _) _) _); simp only [List.set_cons_succ, List.set_cons_zero]) | with_reducible (first | apply s_cons | apply th_nx | apply th_rt | apply th_bk | apply th_ct | apply s_nil | apply s_set | apply s_par2 | apply s_seti | apply s_ife | apply s_ret | apply s_retN | apply s_exp | apply s_brk | apply s_cnt | apply s_pss | apply s_loop | apply rt_rt | apply rt_nx | apply wh_nx | apply wh_ct | apply wh_bk | apply wh_rt | apply w_int | apply w_non | apply w_bl | apply w_str | apply w_tup | apply w_lst | apply w_dct0 | apply es_nil | apply es_cons | apply w_bin | apply w_neg | apply w_cmp | apply w_chn | apply w_and | apply w_or | apply w_not | apply w_ife | apply w_idx | apply w_slc | apply w_rev | apply w_call | apply w_bi | apply w_isi | apply w_mth | apply w_lc | apply o_no | apply o_so | apply ts_nil | apply ts_cons | apply i_val | apply i_rng1 | apply i_rng2 | apply i_enu | apply i_zip | apply o_addI | apply o_subI | apply b_lenT | apply b_lenR | apply b_abs | apply b_intI | apply b_tupT | apply b_listT | apply l_tup | apply l_rol | apply bo_bl) | ((with_reducible apply s_augA); rfl) | ((with_reducible apply s_augS); rfl) | ((with_reducible apply w_var); rfl) | ((with_reducible apply w_glb); rfl) | ((with_reducible apply w_calk); rfl) | ((fail_if_success (with_reducible show ∃ k, opC .NotIn _ _ _ = some k ∧ _)); (fail_if_success (with_reducible show ∃ k, opC .In _ _ _ = some k ∧ _)); refine ⟨_, rfl, ?_⟩)))
  refine o_pow (by decide) ?_
  (repeat (first | ((with_reducible show Wp (evSs _ _ (List.set _ _ _) _) _); simp only [List.set_cons_succ, List.set_cons_zero]) | with_reducible (first | apply s_cons | apply th_nx | apply th_rt | apply th_bk | apply th_ct | apply s_nil | apply s_set | apply s_par2 | apply s_seti | apply s_ife | apply s_ret | apply s_retN | apply s_exp | apply s_brk | apply s_cnt | apply s_pss | apply s_loop | apply rt_rt | apply rt_nx | apply wh_nx | apply wh_ct | apply wh_bk | apply wh_rt | apply w_int | apply w_non | apply w_bl | apply w_str | apply w_tup | apply w_lst | apply w_dct0 | apply es_nil | apply es_cons | apply w_bin | apply w_neg | apply w_cmp | apply w_chn | apply w_and | apply w_or | apply w_not | apply w_ife | apply w_idx | apply w_slc | apply w_rev | apply w_call | apply w_bi | apply w_isi | apply w_mth | apply w_lc | apply o_no | apply o_so | apply ts_nil | apply ts_cons | apply i_val | apply i_rng1 | apply i_rng2 | apply i_enu | apply i_zip | apply o_addI | apply o_subI | apply b_lenT | apply b_lenR | apply b_abs | apply b_intI | apply b_tupT | apply b_listT | apply l_tup | apply l_rol | apply bo_bl) | ((with_reducible apply s_augA); rfl) | ((with_reducible apply s_augS); rfl) | ((with_reducible apply w_var); rfl) | ((with_reducible apply w_glb); rfl) | ((with_reducible apply w_calk); rfl) | ((fail_if_success (with_reducible show ∃ k, opC .NotIn _ _ _ = some k ∧ _)); (fail_if_success (with_reducible show ∃ k, opC .In _ _ _ = some k ∧ _)); refine ⟨_, rfl, ?_⟩)))
  refine o_pow (by decide) ?_
  (repeat (first | ((with_reducible show Wp (evSs _ _ (List.set _ _ _) _) _); simp only [List.set_cons_succ, List.set_cons_zero]) | with_reducible (first | apply s_cons | apply th_nx | apply th_rt | apply th_bk | apply th_ct | apply s_nil | apply s_set | apply s_par2 | apply s_seti | apply s_ife | apply s_ret | apply s_retN | apply s_exp | apply s_brk | apply s_cnt | apply s_pss | apply s_loop | apply rt_rt | apply rt_nx | apply wh_nx | apply wh_ct | apply wh_bk | apply wh_rt | apply w_int | apply w_non | apply w_bl | apply w_str | apply w_tup | apply w_lst | apply w_dct0 | apply es_nil | apply es_cons | apply w_bin | apply w_neg | apply w_cmp | apply w_chn | apply w_and | apply w_or | apply w_not | apply w_ife | apply w_idx | apply w_slc | apply w_rev | apply w_call | apply w_bi | apply w_isi | apply w_mth | apply w_lc | apply o_no | apply o_so | apply ts_nil | apply ts_cons | apply i_val | apply i_rng1 | apply i_rng2 | apply i_enu | apply i_zip | apply o_addI | apply o_subI | apply b_lenT | apply b_lenR | apply b_abs | apply b_intI | apply b_tupT | apply b_listT | apply l_tup | apply l_rol | apply bo_bl) | ((with_reducible apply s_augA); rfl) | ((with_reducible apply s_augS); rfl) | ((with_reducible apply w_var); rfl) | ((with_reducible apply w_glb); rfl) | ((with_reducible apply w_calk); rfl) | ((fail_if_success (with_reducible show ∃ k, opC .NotIn _ _ _ = some k ∧ _)); (fail_if_success (with_reducible show ∃ k, opC .In _ _ _ = some k ∧ _)); refine ⟨_, rfl, ?_⟩)))
  have B3 := push (C.lst [D.int (plv bs - 1), D.int (plv bs - 1)]) (push (C.lst [D.int (plv bs - 1), D.int (plv bs - 1)]) B2)
  have K3 := Kb K2 (C.lst [D.int (plv bs - 1), D.int (plv bs - 1)]) (C.lst [D.int (plv bs - 1), D.int (plv bs - 1)])
  refine wp_mono (pick_ok f9 f8 rfl (push _ B3) push_at (off B3).1 (off B3).2 (by simp) (by simp)) ?_
  rintro d s5 ⟨hd, B5, K5⟩
  have K5 := (K3.push _).trans K5
  obtain ⟨m2, rfl, m20, m21⟩ : ∃ m : Int, d = .int m ∧ 0 < m ∧ m ≤ 10 ^ 30 + 1 := by
    simp only [List.mem_cons, List.not_mem_nil, or_false] at hd
    rcases hd with rfl | rfl | rfl | rfl <;> exact ⟨_, rfl, by decide, by decide⟩
  (repeat (first | ((with_reducible show Wp (evSs _ _ (List.set _ _ _) _) _); simp only [List.set_cons_succ, List.set_cons_zero]) | with_reducible (first | apply s_cons | apply th_nx | apply th_rt | apply th_bk | apply th_ct | apply s_nil | apply s_set | apply s_par2 | apply s_seti | apply s_ife | apply s_ret | apply s_retN | apply s_exp | apply s_brk | apply s_cnt | apply s_pss | apply s_loop | apply rt_rt | apply rt_nx | apply wh_nx | apply wh_ct | apply wh_bk | apply wh_rt | apply w_int | apply w_non | apply w_bl | apply w_str | apply w_tup | apply w_lst | apply w_dct0 | apply es_nil | apply es_cons | apply w_bin | apply w_neg | apply w_cmp | apply w_chn | apply w_and | apply w_or | apply w_not | apply w_ife | apply w_idx | apply w_slc | apply w_rev | apply w_call | apply w_bi | apply w_isi | apply w_mth | apply w_lc | apply o_no | apply o_so | apply ts_nil | apply ts_cons | apply i_val | apply i_rng1 | apply i_rng2 | apply i_enu | apply i_zip | apply o_addI | apply o_subI | apply b_lenT | apply b_lenR | apply b_abs | apply b_intI | apply b_tupT | apply b_listT | apply l_tup | apply l_rol | apply bo_bl) | ((with_reducible apply s_augA); rfl) | ((with_reducible apply s_augS); rfl) | ((with_reducible apply w_var); rfl) | ((with_reducible apply w_glb); rfl) | ((with_reducible apply w_calk); rfl) | ((fail_if_success (with_reducible show ∃ k, opC .NotIn _ _ _ = some k ∧ _)); (fail_if_success (with_reducible show ∃ k, opC .In _ _ _ = some k ∧ _)); refine ⟨_, rfl, ?_⟩)))
  refine wp_mono (draw_ok f8 rfl B5 m20 (by have := log2_of (i := m2) (k := 200) (by omega) (by decide); omega)) ?_
  rintro d s6 ⟨r, rfl, r0, r1, B6, K6⟩
  have K6 := K5.trans K6
  (repeat (first | ((with_reducible show Wp (evSs _ _ (List.set _ _ _) _) _); simp only [List.set_cons_succ, List.set_cons_zero]) | with_reducible (first | apply s_cons | apply th_nx | apply th_rt | apply th_bk | apply th_ct | apply s_nil | apply s_set | apply s_par2 | apply s_seti | apply s_ife | apply s_ret | apply s_retN | apply s_exp | apply s_brk | apply s_cnt | apply s_pss | apply s_loop | apply rt_rt | apply rt_nx | apply wh_nx | apply wh_ct | apply wh_bk | apply wh_rt | apply w_int | apply w_non | apply w_bl | apply w_str | apply w_tup | apply w_lst | apply w_dct0 | apply es_nil | apply es_cons | apply w_bin | apply w_neg | apply w_cmp | apply w_chn | apply w_and | apply w_or | apply w_not | apply w_ife | apply w_idx | apply w_slc | apply w_rev | apply w_call | apply w_bi | apply w_isi | apply w_mth | apply w_lc | apply o_no | apply o_so | apply ts_nil | apply ts_cons | apply i_val | apply i_rng1 | apply i_rng2 | apply i_enu | apply i_zip | apply o_addI | apply o_subI | apply b_lenT | apply b_lenR | apply b_abs | apply b_intI | apply b_tupT | apply b_listT | apply l_tup | apply l_rol | apply bo_bl) | ((with_reducible apply s_augA); rfl) | ((with_reducible apply s_augS); rfl) | ((with_reducible apply w_var); rfl) | ((with_reducible apply w_glb); rfl) | ((with_reducible apply w_calk); rfl) | ((fail_if_success (with_reducible show ∃ k, opC .NotIn _ _ _ = some k ∧ _)); (fail_if_success (with_reducible show ∃ k, opC .In _ _ _ = some k ∧ _)); refine ⟨_, rfl, ?_⟩)))
  refine wp_mono (draw_ok f8 rfl B6 (by decide) (by decide)) ?_
  rintro d s7 ⟨r4, rfl, r40, r41, B7, K7⟩
  have K7 := K6.trans K7
  have rest : ∀ own : Int, 0 ≤ own → own ≤ 10 ^ 30 → Fo (P.cf (n + 2)) (.nm 5) (.cons (.set (.nm 6) (.call 15 (.cons (.var 5) .nil))) (.cons (.ife (.cmp .NotEq (.bi .repr (.cons (.lst (.cons (.call 5 (.cons (.var 5) .nil)) (.cons (.calk 0 .nil (.cons (.var 5) .nil)) (.cons (.call 6 (.cons (.var 6) .nil)) .nil)))) .nil)) (.bi .repr (.cons (.lst (.cons (.var 6) (.cons (.var 6) (.cons (.var 5) .nil)))) .nil))) (.cons (.ret (.bl false)) .nil) .nil) .nil)) ⟨[.int r, .int own], none⟩ [.int r, .int own]
      [some (.loc b), some (.tup (bs.map D.int)), some (.int r), some (.int ((2 : Int) ^ bs.length)), x, none, none] s7 (Th (P.cf (n + 2)) (.cons (.ret (.bl true)) .nil) (Rt fun d s' => d = .bl true ∧ Bag q b s' ∧ Kx [q, b] s s')) := by
    intro own own0 own1
    refine fo_inv (fun xs e s' => ∃ (x y z : Option D), e = [some (.loc b), some (.tup (bs.map D.int)), some (.int r), some (.int ((2 : Int) ^ bs.length)), x, y, z] ∧ (∀ d ∈ xs, ∃ i : Nat, d = .int i ∧ i ≤ 10 ^ 30) ∧ Bag q b s' ∧ Kx [q, b] s s') ?_ ?_ ⟨_, _, _, rfl, ?_, B7, K7⟩
    · rintro d xs e s' ⟨x, y, z, rfl, hx, B', K'⟩
      obtain ⟨i, rfl, hi⟩ := hx d List.mem_cons_self
      have i2 : i + 1 < 2 ^ 200 := by omega
      refine ⟨fo_none, _, rfl, ?_⟩
      (repeat (first | ((with_reducible show Wp (evSs _ _ (List.set _ _ _) _) _); simp only [List.set_cons_succ, List.set_cons_zero]) | with_reducible (first | apply s_cons | apply th_nx | apply th_rt | apply th_bk | apply th_ct | apply s_nil | apply s_set | apply s_par2 | apply s_seti | apply s_ife | apply s_ret | apply s_retN | apply s_exp | apply s_brk | apply s_cnt | apply s_pss | apply s_loop | apply rt_rt | apply rt_nx | apply wh_nx | apply wh_ct | apply wh_bk | apply wh_rt | apply w_int | apply w_non | apply w_bl | apply w_str | apply w_tup | apply w_lst | apply w_dct0 | apply es_nil | apply es_cons | apply w_bin | apply w_neg | apply w_cmp | apply w_chn | apply w_and | apply w_or | apply w_not | apply w_ife | apply w_idx | apply w_slc | apply w_rev | apply w_call | apply w_bi | apply w_isi | apply w_mth | apply w_lc | apply o_no | apply o_so | apply ts_nil | apply ts_cons | apply i_val | apply i_rng1 | apply i_rng2 | apply i_enu | apply i_zip | apply o_addI | apply o_subI | apply b_lenT | apply b_lenR | apply b_abs | apply b_intI | apply b_tupT | apply b_listT | apply l_tup | apply l_rol | apply bo_bl) | ((with_reducible apply s_augA); rfl) | ((with_reducible apply s_augS); rfl) | ((with_reducible apply w_var); rfl) | ((with_reducible apply w_glb); rfl) | ((with_reducible apply w_calk); rfl) | ((fail_if_success (with_reducible show ∃ k, opC .NotIn _ _ _ = some k ∧ _)); (fail_if_success (with_reducible show ∃ k, opC .In _ _ _ = some k ∧ _)); refine ⟨_, rfl, ?_⟩)))
      refine wp_mono (digits_ok i2) ?_
      rintro d s8 ⟨rfl, K8⟩
      (repeat (first | ((with_reducible show Wp (evSs _ _ (List.set _ _ _) _) _); simp only [List.set_cons_succ, List.set_cons_zero]) | with_reducible (first | apply s_cons | apply th_nx | apply th_rt | apply th_bk | apply th_ct | apply s_nil | apply s_set | apply s_par2 | apply s_seti | apply s_ife | apply s_ret | apply s_retN | apply s_exp | apply s_brk | apply s_cnt | apply s_pss | apply s_loop | apply rt_rt | apply rt_nx | apply wh_nx | apply wh_ct | apply wh_bk | apply wh_rt | apply w_int | apply w_non | apply w_bl | apply w_str | apply w_tup | apply w_lst | apply w_dct0 | apply es_nil | apply es_cons | apply w_bin | apply w_neg | apply w_cmp | apply w_chn | apply w_and | apply w_or | apply w_not | apply w_ife | apply w_idx | apply w_slc | apply w_rev | apply w_call | apply w_bi | apply w_isi | apply w_mth | apply w_lc | apply o_no | apply o_so | apply ts_nil | apply ts_cons | apply i_val | apply i_rng1 | apply i_rng2 | apply i_enu | apply i_zip | apply o_addI | apply o_subI | apply b_lenT | apply b_lenR | apply b_abs | apply b_intI | apply b_tupT | apply b_listT | apply l_tup | apply l_rol | apply bo_bl) | ((with_reducible apply s_augA); rfl) | ((with_reducible apply s_augS); rfl) | ((with_reducible apply w_var); rfl) | ((with_reducible apply w_glb); rfl) | ((with_reducible apply w_calk); rfl) | ((fail_if_success (with_reducible show ∃ k, opC .NotIn _ _ _ = some k ∧ _)); (fail_if_success (with_reducible show ∃ k, opC .In _ _ _ = some k ∧ _)); refine ⟨_, rfl, ?_⟩)))
      refine wp_mono (at_ok i2) ?_
      rintro d s9 ⟨rfl, K9⟩
      (repeat (first | ((with_reducible show Wp (evSs _ _ (List.set _ _ _) _) _); simp only [List.set_cons_succ, List.set_cons_zero]) | with_reducible (first | apply s_cons | apply th_nx | apply th_rt | apply th_bk | apply th_ct | apply s_nil | apply s_set | apply s_par2 | apply s_seti | apply s_ife | apply s_ret | apply s_retN | apply s_exp | apply s_brk | apply s_cnt | apply s_pss | apply s_loop | apply rt_rt | apply rt_nx | apply wh_nx | apply wh_ct | apply wh_bk | apply wh_rt | apply w_int | apply w_non | apply w_bl | apply w_str | apply w_tup | apply w_lst | apply w_dct0 | apply es_nil | apply es_cons | apply w_bin | apply w_neg | apply w_cmp | apply w_chn | apply w_and | apply w_or | apply w_not | apply w_ife | apply w_idx | apply w_slc | apply w_rev | apply w_call | apply w_bi | apply w_isi | apply w_mth | apply w_lc | apply o_no | apply o_so | apply ts_nil | apply ts_cons | apply i_val | apply i_rng1 | apply i_rng2 | apply i_enu | apply i_zip | apply o_addI | apply o_subI | apply b_lenT | apply b_lenR | apply b_abs | apply b_intI | apply b_tupT | apply b_listT | apply l_tup | apply l_rol | apply bo_bl) | ((with_reducible apply s_augA); rfl) | ((with_reducible apply s_augS); rfl) | ((with_reducible apply w_var); rfl) | ((with_reducible apply w_glb); rfl) | ((with_reducible apply w_calk); rfl) | ((fail_if_success (with_reducible show ∃ k, opC .NotIn _ _ _ = some k ∧ _)); (fail_if_success (with_reducible show ∃ k, opC .In _ _ _ = some k ∧ _)); refine ⟨_, rfl, ?_⟩)))
      refine wp_mono (at_ok i2) ?_
      rintro d s10 ⟨rfl, K10⟩
      (repeat (first | ((with_reducible show Wp (evSs _ _ (List.set _ _ _) _) _); simp only [List.set_cons_succ, List.set_cons_zero]) | with_reducible (first | apply s_cons | apply th_nx | apply th_rt | apply th_bk | apply th_ct | apply s_nil | apply s_set | apply s_par2 | apply s_seti | apply s_ife | apply s_ret | apply s_retN | apply s_exp | apply s_brk | apply s_cnt | apply s_pss | apply s_loop | apply rt_rt | apply rt_nx | apply wh_nx | apply wh_ct | apply wh_bk | apply wh_rt | apply w_int | apply w_non | apply w_bl | apply w_str | apply w_tup | apply w_lst | apply w_dct0 | apply es_nil | apply es_cons | apply w_bin | apply w_neg | apply w_cmp | apply w_chn | apply w_and | apply w_or | apply w_not | apply w_ife | apply w_idx | apply w_slc | apply w_rev | apply w_call | apply w_bi | apply w_isi | apply w_mth | apply w_lc | apply o_no | apply o_so | apply ts_nil | apply ts_cons | apply i_val | apply i_rng1 | apply i_rng2 | apply i_enu | apply i_zip | apply o_addI | apply o_subI | apply b_lenT | apply b_lenR | apply b_abs | apply b_intI | apply b_tupT | apply b_listT | apply l_tup | apply l_rol | apply bo_bl) | ((with_reducible apply s_augA); rfl) | ((with_reducible apply s_augS); rfl) | ((with_reducible apply w_var); rfl) | ((with_reducible apply w_glb); rfl) | ((with_reducible apply w_calk); rfl) | ((fail_if_success (with_reducible show ∃ k, opC .NotIn _ _ _ = some k ∧ _)); (fail_if_success (with_reducible show ∃ k, opC .In _ _ _ = some k ∧ _)); refine ⟨_, rfl, ?_⟩)))
      refine wp_mono (place_ok f6 (digs_bits _) (Nat.le_trans (digs_len _) (by decide))) ?_
      rintro d s11 ⟨rfl, rfl⟩
      have pi : plv (digs (i + 1)) - 1 = i := by
        rw [plv_digs (by omega) i2]
        omega
      rw [pi]
      have K11 : Kx [] s' s11 := (K8.trans K9).trans K10
      have pw : Pu 100 1 200 (.tup ((digs (i + 1)).map D.int)) := (va_tup (k := 0) (pus_ints (bits_small (digs_bits (i + 1))))).mono (by decide) (digs_len _)
      have pp : Pus 100 1 403 [.tup ((digs (i + 1)).map D.int), .tup ((digs (i + 1)).map D.int), .int i] := (vas_cons pw (vas_cons pw (vas_cons (n := 0) (m := 0) (pu_int (by omega)) vas_nil))).mono (by decide) (by decide)
      (repeat (first | ((with_reducible show Wp (evSs _ _ (List.set _ _ _) _) _); simp only [List.set_cons_succ, List.set_cons_zero]) | with_reducible (first | apply s_cons | apply th_nx | apply th_rt | apply th_bk | apply th_ct | apply s_nil | apply s_set | apply s_par2 | apply s_seti | apply s_ife | apply s_ret | apply s_retN | apply s_exp | apply s_brk | apply s_cnt | apply s_pss | apply s_loop | apply rt_rt | apply rt_nx | apply wh_nx | apply wh_ct | apply wh_bk | apply wh_rt | apply w_int | apply w_non | apply w_bl | apply w_str | apply w_tup | apply w_lst | apply w_dct0 | apply es_nil | apply es_cons | apply w_bin | apply w_neg | apply w_cmp | apply w_chn | apply w_and | apply w_or | apply w_not | apply w_ife | apply w_idx | apply w_slc | apply w_rev | apply w_call | apply w_bi | apply w_isi | apply w_mth | apply w_lc | apply o_no | apply o_so | apply ts_nil | apply ts_cons | apply i_val | apply i_rng1 | apply i_rng2 | apply i_enu | apply i_zip | apply o_addI | apply o_subI | apply b_lenT | apply b_lenR | apply b_abs | apply b_intI | apply b_tupT | apply b_listT | apply l_tup | apply l_rol | apply bo_bl) | ((with_reducible apply s_augA); rfl) | ((with_reducible apply s_augS); rfl) | ((with_reducible apply w_var); rfl) | ((with_reducible apply w_glb); rfl) | ((with_reducible apply w_calk); rfl) | ((fail_if_success (with_reducible show ∃ k, opC .NotIn _ _ _ = some k ∧ _)); (fail_if_success (with_reducible show ∃ k, opC .In _ _ _ = some k ∧ _)); refine ⟨_, rfl, ?_⟩)))
      refine b_repr (rep_pure push_at pp (by decide) (by decide) (by rw [sizeLine_eq]; decide)) ?_
      (repeat (first | ((with_reducible show Wp (evSs _ _ (List.set _ _ _) _) _); simp only [List.set_cons_succ, List.set_cons_zero]) | with_reducible (first | apply s_cons | apply th_nx | apply th_rt | apply th_bk | apply th_ct | apply s_nil | apply s_set | apply s_par2 | apply s_seti | apply s_ife | apply s_ret | apply s_retN | apply s_exp | apply s_brk | apply s_cnt | apply s_pss | apply s_loop | apply rt_rt | apply rt_nx | apply wh_nx | apply wh_ct | apply wh_bk | apply wh_rt | apply w_int | apply w_non | apply w_bl | apply w_str | apply w_tup | apply w_lst | apply w_dct0 | apply es_nil | apply es_cons | apply w_bin | apply w_neg | apply w_cmp | apply w_chn | apply w_and | apply w_or | apply w_not | apply w_ife | apply w_idx | apply w_slc | apply w_rev | apply w_call | apply w_bi | apply w_isi | apply w_mth | apply w_lc | apply o_no | apply o_so | apply ts_nil | apply ts_cons | apply i_val | apply i_rng1 | apply i_rng2 | apply i_enu | apply i_zip | apply o_addI | apply o_subI | apply b_lenT | apply b_lenR | apply b_abs | apply b_intI | apply b_tupT | apply b_listT | apply l_tup | apply l_rol | apply bo_bl) | ((with_reducible apply s_augA); rfl) | ((with_reducible apply s_augS); rfl) | ((with_reducible apply w_var); rfl) | ((with_reducible apply w_glb); rfl) | ((with_reducible apply w_calk); rfl) | ((fail_if_success (with_reducible show ∃ k, opC .NotIn _ _ _ = some k ∧ _)); (fail_if_success (with_reducible show ∃ k, opC .In _ _ _ = some k ∧ _)); refine ⟨_, rfl, ?_⟩)))
      refine b_repr (rep_pure push_at pp (by decide) (by decide) (by rw [sizeLine_eq]; decide)) ?_
      (repeat (first | ((with_reducible show Wp (evSs _ _ (List.set _ _ _) _) _); simp only [List.set_cons_succ, List.set_cons_zero]) | with_reducible (first | apply s_cons | apply th_nx | apply th_rt | apply th_bk | apply th_ct | apply s_nil | apply s_set | apply s_par2 | apply s_seti | apply s_ife | apply s_ret | apply s_retN | apply s_exp | apply s_brk | apply s_cnt | apply s_pss | apply s_loop | apply rt_rt | apply rt_nx | apply wh_nx | apply wh_ct | apply wh_bk | apply wh_rt | apply w_int | apply w_non | apply w_bl | apply w_str | apply w_tup | apply w_lst | apply w_dct0 | apply es_nil | apply es_cons | apply w_bin | apply w_neg | apply w_cmp | apply w_chn | apply w_and | apply w_or | apply w_not | apply w_ife | apply w_idx | apply w_slc | apply w_rev | apply w_call | apply w_bi | apply w_isi | apply w_mth | apply w_lc | apply o_no | apply o_so | apply ts_nil | apply ts_cons | apply i_val | apply i_rng1 | apply i_rng2 | apply i_enu | apply i_zip | apply o_addI | apply o_subI | apply b_lenT | apply b_lenR | apply b_abs | apply b_intI | apply b_tupT | apply b_listT | apply l_tup | apply l_rol | apply bo_bl) | ((with_reducible apply s_augA); rfl) | ((with_reducible apply s_augS); rfl) | ((with_reducible apply w_var); rfl) | ((with_reducible apply w_glb); rfl) | ((with_reducible apply w_calk); rfl) | ((fail_if_success (with_reducible show ∃ k, opC .NotIn _ _ _ = some k ∧ _)); (fail_if_success (with_reducible show ∃ k, opC .In _ _ _ = some k ∧ _)); refine ⟨_, rfl, ?_⟩)))
      refine ⟨fun e => by simp at e, fun _ => ?_⟩
      (repeat (first | ((with_reducible show Wp (evSs _ _ (List.set _ _ _) _) _); simp only [List.set_cons_succ, List.set_cons_zero]) | with_reducible (first | apply s_cons | apply th_nx | apply th_rt | apply th_bk | apply th_ct | apply s_nil | apply s_set | apply s_par2 | apply s_seti | apply s_ife | apply s_ret | apply s_retN | apply s_exp | apply s_brk | apply s_cnt | apply s_pss | apply s_loop | apply rt_rt | apply rt_nx | apply wh_nx | apply wh_ct | apply wh_bk | apply wh_rt | apply w_int | apply w_non | apply w_bl | apply w_str | apply w_tup | apply w_lst | apply w_dct0 | apply es_nil | apply es_cons | apply w_bin | apply w_neg | apply w_cmp | apply w_chn | apply w_and | apply w_or | apply w_not | apply w_ife | apply w_idx | apply w_slc | apply w_rev | apply w_call | apply w_bi | apply w_isi | apply w_mth | apply w_lc | apply o_no | apply o_so | apply ts_nil | apply ts_cons | apply i_val | apply i_rng1 | apply i_rng2 | apply i_enu | apply i_zip | apply o_addI | apply o_subI | apply b_lenT | apply b_lenR | apply b_abs | apply b_intI | apply b_tupT | apply b_listT | apply l_tup | apply l_rol | apply bo_bl) | ((with_reducible apply s_augA); rfl) | ((with_reducible apply s_augS); rfl) | ((with_reducible apply w_var); rfl) | ((with_reducible apply w_glb); rfl) | ((with_reducible apply w_calk); rfl) | ((fail_if_success (with_reducible show ∃ k, opC .NotIn _ _ _ = some k ∧ _)); (fail_if_success (with_reducible show ∃ k, opC .In _ _ _ = some k ∧ _)); refine ⟨_, rfl, ?_⟩)))
      have K12 : Kx [] s' (s11 ++ [C.lst [.tup ((digs (i + 1)).map D.int), .tup ((digs (i + 1)).map D.int), .int i]] ++ [C.lst [.tup ((digs (i + 1)).map D.int), .tup ((digs (i + 1)).map D.int), .int i]]) := Kb K11 _ _
      exact ⟨_, _, _, rfl, fun d hd => hx d (List.mem_cons_of_mem _ hd), B'.kx K12 (by simp) (by simp), K'.trans (K12.weak (by simp))⟩
    · rintro e s' ⟨x, y, z, rfl, hx, B', K'⟩
      refine ⟨fo_none, ?_⟩
      (repeat (first | ((with_reducible show Wp (evSs _ _ (List.set _ _ _) _) _); simp only [List.set_cons_succ, List.set_cons_zero]) | with_reducible (first | apply s_cons | apply th_nx | apply th_rt | apply th_bk | apply th_ct | apply s_nil | apply s_set | apply s_par2 | apply s_seti | apply s_ife | apply s_ret | apply s_retN | apply s_exp | apply s_brk | apply s_cnt | apply s_pss | apply s_loop | apply rt_rt | apply rt_nx | apply wh_nx | apply wh_ct | apply wh_bk | apply wh_rt | apply w_int | apply w_non | apply w_bl | apply w_str | apply w_tup | apply w_lst | apply w_dct0 | apply es_nil | apply es_cons | apply w_bin | apply w_neg | apply w_cmp | apply w_chn | apply w_and | apply w_or | apply w_not | apply w_ife | apply w_idx | apply w_slc | apply w_rev | apply w_call | apply w_bi | apply w_isi | apply w_mth | apply w_lc | apply o_no | apply o_so | apply ts_nil | apply ts_cons | apply i_val | apply i_rng1 | apply i_rng2 | apply i_enu | apply i_zip | apply o_addI | apply o_subI | apply b_lenT | apply b_lenR | apply b_abs | apply b_intI | apply b_tupT | apply b_listT | apply l_tup | apply l_rol | apply bo_bl) | ((with_reducible apply s_augA); rfl) | ((with_reducible apply s_augS); rfl) | ((with_reducible apply w_var); rfl) | ((with_reducible apply w_glb); rfl) | ((with_reducible apply w_calk); rfl) | ((fail_if_success (with_reducible show ∃ k, opC .NotIn _ _ _ = some k ∧ _)); (fail_if_success (with_reducible show ∃ k, opC .In _ _ _ = some k ∧ _)); refine ⟨_, rfl, ?_⟩)))
      exact ⟨rfl, B', K'⟩
    · intro d hd
      simp only [List.mem_cons, List.not_mem_nil, or_false] at hd
      rcases hd with rfl | rfl
      · exact ⟨r.toNat, by rw [Int.toNat_of_nonneg r0], by omega⟩
      · exact ⟨own.toNat, by rw [Int.toNat_of_nonneg own0], by omega⟩
  (repeat (first | ((with_reducible show Wp (evSs _ _ (List.set _ _ _) _) _); simp only [List.set_cons_succ, List.set_cons_zero]) | with_reducible (first | apply s_cons | apply th_nx | apply th_rt | apply th_bk | apply th_ct | apply s_nil | apply s_set | apply s_par2 | apply s_seti | apply s_ife | apply s_ret | apply s_retN | apply s_exp | apply s_brk | apply s_cnt | apply s_pss | apply s_loop | apply rt_rt | apply rt_nx | apply wh_nx | apply wh_ct | apply wh_bk | apply wh_rt | apply w_int | apply w_non | apply w_bl | apply w_str | apply w_tup | apply w_lst | apply w_dct0 | apply es_nil | apply es_cons | apply w_bin | apply w_neg | apply w_cmp | apply w_chn | apply w_and | apply w_or | apply w_not | apply w_ife | apply w_idx | apply w_slc | apply w_rev | apply w_call | apply w_bi | apply w_isi | apply w_mth | apply w_lc | apply o_no | apply o_so | apply ts_nil | apply ts_cons | apply i_val | apply i_rng1 | apply i_rng2 | apply i_enu | apply i_zip | apply o_addI | apply o_subI | apply b_lenT | apply b_lenR | apply b_abs | apply b_intI | apply b_tupT | apply b_listT | apply l_tup | apply l_rol | apply bo_bl) | ((with_reducible apply s_augA); rfl) | ((with_reducible apply s_augS); rfl) | ((with_reducible apply w_var); rfl) | ((with_reducible apply w_glb); rfl) | ((with_reducible apply w_calk); rfl) | ((fail_if_success (with_reducible show ∃ k, opC .NotIn _ _ _ = some k ∧ _)); (fail_if_success (with_reducible show ∃ k, opC .In _ _ _ = some k ∧ _)); refine ⟨_, rfl, ?_⟩)))
  refine ⟨fun _ => ?_, fun _ => ?_⟩
  · (repeat (first | ((with_reducible show Wp (evSs _ _ (List.set _ _ _) _) _); simp only [List.set_cons_succ, List.set_cons_zero]) | with_reducible (first | apply s_cons | apply th_nx | apply th_rt | apply th_bk | apply th_ct | apply s_nil | apply s_set | apply s_par2 | apply s_seti | apply s_ife | apply s_ret | apply s_retN | apply s_exp | apply s_brk | apply s_cnt | apply s_pss | apply s_loop | apply rt_rt | apply rt_nx | apply wh_nx | apply wh_ct | apply wh_bk | apply wh_rt | apply w_int | apply w_non | apply w_bl | apply w_str | apply w_tup | apply w_lst | apply w_dct0 | apply es_nil | apply es_cons | apply w_bin | apply w_neg | apply w_cmp | apply w_chn | apply w_and | apply w_or | apply w_not | apply w_ife | apply w_idx | apply w_slc | apply w_rev | apply w_call | apply w_bi | apply w_isi | apply w_mth | apply w_lc | apply o_no | apply o_so | apply ts_nil | apply ts_cons | apply i_val | apply i_rng1 | apply i_rng2 | apply i_enu | apply i_zip | apply o_addI | apply o_subI | apply b_lenT | apply b_lenR | apply b_abs | apply b_intI | apply b_tupT | apply b_listT | apply l_tup | apply l_rol | apply bo_bl) | ((with_reducible apply s_augA); rfl) | ((with_reducible apply s_augS); rfl) | ((with_reducible apply w_var); rfl) | ((with_reducible apply w_glb); rfl) | ((with_reducible apply w_calk); rfl) | ((fail_if_success (with_reducible show ∃ k, opC .NotIn _ _ _ = some k ∧ _)); (fail_if_success (with_reducible show ∃ k, opC .In _ _ _ = some k ∧ _)); refine ⟨_, rfl, ?_⟩)))
    refine o_pow (by decide) ?_
    (repeat (first | ((with_reducible show Wp (evSs _ _ (List.set _ _ _) _) _); simp only [List.set_cons_succ, List.set_cons_zero]) | with_reducible (first | apply s_cons | apply th_nx | apply th_rt | apply th_bk | apply th_ct | apply s_nil | apply s_set | apply s_par2 | apply s_seti | apply s_ife | apply s_ret | apply s_retN | apply s_exp | apply s_brk | apply s_cnt | apply s_pss | apply s_loop | apply rt_rt | apply rt_nx | apply wh_nx | apply wh_ct | apply wh_bk | apply wh_rt | apply w_int | apply w_non | apply w_bl | apply w_str | apply w_tup | apply w_lst | apply w_dct0 | apply es_nil | apply es_cons | apply w_bin | apply w_neg | apply w_cmp | apply w_chn | apply w_and | apply w_or | apply w_not | apply w_ife | apply w_idx | apply w_slc | apply w_rev | apply w_call | apply w_bi | apply w_isi | apply w_mth | apply w_lc | apply o_no | apply o_so | apply ts_nil | apply ts_cons | apply i_val | apply i_rng1 | apply i_rng2 | apply i_enu | apply i_zip | apply o_addI | apply o_subI | apply b_lenT | apply b_lenR | apply b_abs | apply b_intI | apply b_tupT | apply b_listT | apply l_tup | apply l_rol | apply bo_bl) | ((with_reducible apply s_augA); rfl) | ((with_reducible apply s_augS); rfl) | ((with_reducible apply w_var); rfl) | ((with_reducible apply w_glb); rfl) | ((with_reducible apply w_calk); rfl) | ((fail_if_success (with_reducible show ∃ k, opC .NotIn _ _ _ = some k ∧ _)); (fail_if_success (with_reducible show ∃ k, opC .In _ _ _ = some k ∧ _)); refine ⟨_, rfl, ?_⟩)))
    exact rest _ (by decide) (by decide)
  · (repeat (first | ((with_reducible show Wp (evSs _ _ (List.set _ _ _) _) _); simp only [List.set_cons_succ, List.set_cons_zero]) | with_reducible (first | apply s_cons | apply th_nx | apply th_rt | apply th_bk | apply th_ct | apply s_nil | apply s_set | apply s_par2 | apply s_seti | apply s_ife | apply s_ret | apply s_retN | apply s_exp | apply s_brk | apply s_cnt | apply s_pss | apply s_loop | apply rt_rt | apply rt_nx | apply wh_nx | apply wh_ct | apply wh_bk | apply wh_rt | apply w_int | apply w_non | apply w_bl | apply w_str | apply w_tup | apply w_lst | apply w_dct0 | apply es_nil | apply es_cons | apply w_bin | apply w_neg | apply w_cmp | apply w_chn | apply w_and | apply w_or | apply w_not | apply w_ife | apply w_idx | apply w_slc | apply w_rev | apply w_call | apply w_bi | apply w_isi | apply w_mth | apply w_lc | apply o_no | apply o_so | apply ts_nil | apply ts_cons | apply i_val | apply i_rng1 | apply i_rng2 | apply i_enu | apply i_zip | apply o_addI | apply o_subI | apply b_lenT | apply b_lenR | apply b_abs | apply b_intI | apply b_tupT | apply b_listT | apply l_tup | apply l_rol | apply bo_bl) | ((with_reducible apply s_augA); rfl) | ((with_reducible apply s_augS); rfl) | ((with_reducible apply w_var); rfl) | ((with_reducible apply w_glb); rfl) | ((with_reducible apply w_calk); rfl) | ((fail_if_success (with_reducible show ∃ k, opC .NotIn _ _ _ = some k ∧ _)); (fail_if_success (with_reducible show ∃ k, opC .In _ _ _ = some k ∧ _)); refine ⟨_, rfl, ?_⟩)))
    exact rest _ (by decide) (by decide)
end K01
set_option Elab.async false
set_option linter.all false
set_option maxRecDepth 100000
set_option maxHeartbeats 8000000
namespace K01
open PySem PySem.Spec PyProof.Rows L2 Iv
theorem f7 : P.fn[7]? = some ⟨1, 4, bg1⟩ := rfl
theorem f18 : P.fn[18]? = some ⟨1, 18, b18⟩ := rfl
theorem GV.same {A A' : Nat → Prop} {s s' : Sto} {d : D} (h : GV A s d) (k : ∀ n c, A n → s[n]? = some c → A' n ∧ s'[n]? = some c) : ∃ z, reprD s d = some z ∧ reprD s' d = some z := by
  have h' := h.keep k
  rcases h with h | ⟨n, rfl, a, h⟩
  · obtain ⟨y, e1, e2⟩ := h.repr (by decide) (by decide) (by rw [sizeLine_eq]; decide)
    obtain ⟨y0, a, b⟩ := h
    have h2 : Va A' 100 s' 4 3000 d := ⟨y0, a.keep k (Nat.le_refl _), b⟩
    obtain ⟨y', e3, e4⟩ := h2.repr (by decide) (by decide) (by rw [sizeLine_eq]; decide)
    have q1 : y = y0 := by have := a.py 64 (by decide); rw [e1] at this; exact Option.some.inj this
    have q2 : y' = y0 := by have := (a.keep k (Nat.le_refl _)).py 64 (by decide); rw [e3] at this; exact Option.some.inj this
    exact ⟨_, e2, by rw [e4, q1, q2]⟩
  · have k2 : ∀ c, s[n]? = some c → s'[n]? = some c := fun c e => (k n c a e).2
    obtain ⟨z, e⟩ := h'.repr
    refine ⟨z, ?_, e⟩
    rw [← e]
    rcases h with h | h <;> simp only [reprD, pyR, h, k2 _ h]
theorem b_dict1 {s : Sto} {n : Nat} {Q : D → Sto → Prop} (h : s[n]? = some (.lst [.tup [.int 0, .int 1]])) (q : Q (.loc s.length) (s ++ [.dK [(.inl 0, .int 1)]])) : Wp (opBi .dict [.loc n] s) Q := by
  refine ⟨.loc s.length, s ++ [.dK [(.inl 0, .int 1)]], ?_, q⟩
  simp only [opBi, h]
  rfl
theorem cntE {g : Cfg} {env : Iv.Env} {s : Sto} {i : Nat} {bs : List Int} (h : env[i]?.join = some (D.tup (bs.map D.int))) : Wp (evE g (.ife (.cmp .NotEq (.var i) (.tup .nil)) (.int 5) (.int 0)) env s) fun d s' => s' = s ∧ ∃ c : Nat, d = .int c ∧ c ≤ 5 ∧ (0 < c → bs ≠ []) := by
  refine w_ife (w_cmp (w_var h ?_))
  (repeat (first | ((with_reducible show Wp (evSs _ _ (List.set _ _ _) _) _); simp only [List.set_cons_succ, List.set_cons_zero]) | with_reducible (first | apply s_cons | apply th_nx | apply th_rt | apply th_bk | apply th_ct | apply s_nil | apply s_set | apply s_par2 | apply s_seti | apply s_ife | apply s_ret | apply s_retN | apply s_exp | apply s_brk | apply s_cnt | apply s_pss | apply s_loop | apply rt_rt | apply rt_nx | apply wh_nx | apply wh_ct | apply wh_bk | apply wh_rt | apply w_int | apply w_non | apply w_bl | apply w_str | apply w_tup | apply w_lst | apply w_dct0 | apply es_nil | apply es_cons | apply w_bin | apply w_neg | apply w_cmp | apply w_chn | apply w_and | apply w_or | apply w_not | apply w_ife | apply w_idx | apply w_slc | apply w_rev | apply w_call | apply w_bi | apply w_isi | apply w_mth | apply w_lc | apply o_no | apply o_so | apply ts_nil | apply ts_cons | apply i_val | apply i_rng1 | apply i_rng2 | apply i_enu | apply i_zip | apply o_addI | apply o_subI | apply b_lenT | apply b_lenR | apply b_abs | apply b_intI | apply b_tupT | apply b_listT | apply l_tup | apply l_rol | apply bo_bl) | ((with_reducible apply s_augA); rfl) | ((with_reducible apply s_augS); rfl) | ((with_reducible apply w_var); rfl) | ((with_reducible apply w_glb); rfl) | ((with_reducible apply w_calk); rfl) | ((fail_if_success (with_reducible show ∃ k, opC .NotIn _ _ _ = some k ∧ _)); (fail_if_success (with_reducible show ∃ k, opC .In _ _ _ = some k ∧ _)); refine ⟨_, rfl, ?_⟩)))
  refine ⟨_, c_ne eq_ints_tup, ?_⟩
  (repeat (first | ((with_reducible show Wp (evSs _ _ (List.set _ _ _) _) _); simp only [List.set_cons_succ, List.set_cons_zero]) | with_reducible (first | apply s_cons | apply th_nx | apply th_rt | apply th_bk | apply th_ct | apply s_nil | apply s_set | apply s_par2 | apply s_seti | apply s_ife | apply s_ret | apply s_retN | apply s_exp | apply s_brk | apply s_cnt | apply s_pss | apply s_loop | apply rt_rt | apply rt_nx | apply wh_nx | apply wh_ct | apply wh_bk | apply wh_rt | apply w_int | apply w_non | apply w_bl | apply w_str | apply w_tup | apply w_lst | apply w_dct0 | apply es_nil | apply es_cons | apply w_bin | apply w_neg | apply w_cmp | apply w_chn | apply w_and | apply w_or | apply w_not | apply w_ife | apply w_idx | apply w_slc | apply w_rev | apply w_call | apply w_bi | apply w_isi | apply w_mth | apply w_lc | apply o_no | apply o_so | apply ts_nil | apply ts_cons | apply i_val | apply i_rng1 | apply i_rng2 | apply i_enu | apply i_zip | apply o_addI | apply o_subI | apply b_lenT | apply b_lenR | apply b_abs | apply b_intI | apply b_tupT | apply b_listT | apply l_tup | apply l_rol | apply bo_bl) | ((with_reducible apply s_augA); rfl) | ((with_reducible apply s_augS); rfl) | ((with_reducible apply w_var); rfl) | ((with_reducible apply w_glb); rfl) | ((with_reducible apply w_calk); rfl) | ((fail_if_success (with_reducible show ∃ k, opC .NotIn _ _ _ = some k ∧ _)); (fail_if_success (with_reducible show ∃ k, opC .In _ _ _ = some k ∧ _)); refine ⟨_, rfl, ?_⟩)))
  refine ⟨fun e => ?_, fun e => ?_⟩
  · (repeat (first | ((with_reducible show Wp (evSs _ _ (List.set _ _ _) _) _); simp only [List.set_cons_succ, List.set_cons_zero]) | with_reducible (first | apply s_cons | apply th_nx | apply th_rt | apply th_bk | apply th_ct | apply s_nil | apply s_set | apply s_par2 | apply s_seti | apply s_ife | apply s_ret | apply s_retN | apply s_exp | apply s_brk | apply s_cnt | apply s_pss | apply s_loop | apply rt_rt | apply rt_nx | apply wh_nx | apply wh_ct | apply wh_bk | apply wh_rt | apply w_int | apply w_non | apply w_bl | apply w_str | apply w_tup | apply w_lst | apply w_dct0 | apply es_nil | apply es_cons | apply w_bin | apply w_neg | apply w_cmp | apply w_chn | apply w_and | apply w_or | apply w_not | apply w_ife | apply w_idx | apply w_slc | apply w_rev | apply w_call | apply w_bi | apply w_isi | apply w_mth | apply w_lc | apply o_no | apply o_so | apply ts_nil | apply ts_cons | apply i_val | apply i_rng1 | apply i_rng2 | apply i_enu | apply i_zip | apply o_addI | apply o_subI | apply b_lenT | apply b_lenR | apply b_abs | apply b_intI | apply b_tupT | apply b_listT | apply l_tup | apply l_rol | apply bo_bl) | ((with_reducible apply s_augA); rfl) | ((with_reducible apply s_augS); rfl) | ((with_reducible apply w_var); rfl) | ((with_reducible apply w_glb); rfl) | ((with_reducible apply w_calk); rfl) | ((fail_if_success (with_reducible show ∃ k, opC .NotIn _ _ _ = some k ∧ _)); (fail_if_success (with_reducible show ∃ k, opC .In _ _ _ = some k ∧ _)); refine ⟨_, rfl, ?_⟩)))
    exact ⟨rfl, 5, rfl, by decide, fun _ e2 => by simp [e2] at e⟩
  · (repeat (first | ((with_reducible show Wp (evSs _ _ (List.set _ _ _) _) _); simp only [List.set_cons_succ, List.set_cons_zero]) | with_reducible (first | apply s_cons | apply th_nx | apply th_rt | apply th_bk | apply th_ct | apply s_nil | apply s_set | apply s_par2 | apply s_seti | apply s_ife | apply s_ret | apply s_retN | apply s_exp | apply s_brk | apply s_cnt | apply s_pss | apply s_loop | apply rt_rt | apply rt_nx | apply wh_nx | apply wh_ct | apply wh_bk | apply wh_rt | apply w_int | apply w_non | apply w_bl | apply w_str | apply w_tup | apply w_lst | apply w_dct0 | apply es_nil | apply es_cons | apply w_bin | apply w_neg | apply w_cmp | apply w_chn | apply w_and | apply w_or | apply w_not | apply w_ife | apply w_idx | apply w_slc | apply w_rev | apply w_call | apply w_bi | apply w_isi | apply w_mth | apply w_lc | apply o_no | apply o_so | apply ts_nil | apply ts_cons | apply i_val | apply i_rng1 | apply i_rng2 | apply i_enu | apply i_zip | apply o_addI | apply o_subI | apply b_lenT | apply b_lenR | apply b_abs | apply b_intI | apply b_tupT | apply b_listT | apply l_tup | apply l_rol | apply bo_bl) | ((with_reducible apply s_augA); rfl) | ((with_reducible apply s_augS); rfl) | ((with_reducible apply w_var); rfl) | ((with_reducible apply w_glb); rfl) | ((with_reducible apply w_calk); rfl) | ((fail_if_success (with_reducible show ∃ k, opC .NotIn _ _ _ = some k ∧ _)); (fail_if_success (with_reducible show ∃ k, opC .In _ _ _ = some k ∧ _)); refine ⟨_, rfl, ?_⟩)))
    exact ⟨rfl, 0, rfl, by decide, fun z => absurd z (by decide)⟩
theorem lastD_pu {bs : List Int} (h : Bits bs) : Pu 100 0 0 (lastD bs) := by
  cases bs with
  | nil => exact va_non
  | cons b bs => exact pu_int (bits_small h _ (List.getLast_mem _))
theorem ewT_pu {xs : List D} (h : xs.length ≤ 300) : Pu 100 1 20 (ewT xs) := by
  have q : ∀ (xs : List D) (k j : Nat), fbad k xs = some j → j < k + xs.length := fun xs => by
    induction xs with
    | nil => intro k j e; cases e
    | cons x xs ih =>
      intro k j e
      rw [fbad] at e
      split at e
      · cases e; simp
      · have := ih _ _ e
        simp only [List.length_cons]
        omega
  unfold ewT
  cases e : fbad 0 xs with
  | none => exact va_non
  | some j =>
    have := q xs 0 j e
    exact (va_tup (k := 0) (vas_cons (n := 6) (va_str (by decide +kernel) (by decide)) (vas_cons (n := 0) (m := 0) (pu_int (by omega)) vas_nil))).mono (by decide) (by decide)
theorem ew_pu (d : D) : Pu 100 1 20 (ew d) := by
  cases d with
  | tup xs =>
    show Pu 100 1 20 (if 300 < xs.length then .str (Str.ofString "form") else ewT xs)
    split
    · exact va_str (by decide +kernel) (by decide)
    · exact ewT_pu (by omega)
  | _ => exact va_str (by decide +kernel) (by decide)
theorem set_ne {a : Sto} {m n : Nat} {c : C} (h : m ≠ n) : (a.set m c)[n]? = a[n]? := List.getElem?_set_ne h
theorem th_cut {R : Sto → Prop} {g : Cfg} {ss : Ss} {Q : O → Sto → Prop} {o : O} {s : Sto} (h : R s) (k : ∀ S, R S → Th g ss Q o S) : Th g ss Q o s := k s h
abbrev El (d : D) : Prop := Pu 100 1 2 d
theorem el_int {i : Int} (h : i.natAbs < 10 ^ 99) : El (.int i) := pu_int h
theorem el_bits {bs : List Int} (h : Bits bs) : ∀ x ∈ bs.map D.int, El x := fun x hx => by
  obtain ⟨c, hc, rfl⟩ := List.mem_map.mp hx
  exact pu_int (bits_small h c hc)
theorem vas_el {A : Nat → Prop} {s : Sto} {xs : List D} (h : ∀ x ∈ xs, El x) (l : xs.length ≤ 400) : Vas A 100 s 1 1200 xs := (Vas.any (vas_all h)).mono (Nat.le_refl _) (by omega)
theorem gv_tup {A : Nat → Prop} {s : Sto} {xs : List D} (h : ∀ x ∈ xs, El x) (l : xs.length ≤ 400) : GV A s (.tup xs) := .inl ((va_tup (vas_el h l)).mono (by decide) (by decide))
theorem gv_lst {A : Nat → Prop} {s : Sto} {n : Nat} {xs : List D} (a : A n) (e : s[n]? = some (.lst xs)) (h : ∀ x ∈ xs, El x) (l : xs.length ≤ 400) : GV A s (.loc n) := .inl ((va_loc a e (vas_el h l)).mono (by decide) (by decide))
theorem gv_el {A : Nat → Prop} {s : Sto} {d : D} (h : El d) : GV A s d := .inl ((Va.any h).mono (by decide) (by decide))
theorem el_snoc {xs : List D} {d : D} (h : ∀ x ∈ xs, El x) (hd : El d) : ∀ x ∈ xs ++ [d], El x := fun x hx => by
  rcases List.mem_append.mp hx with z | z
  · exact h x z
  · rw [List.mem_singleton.mp z]; exact hd
theorem mem_range : ∀ {n lo : Nat} {x : D}, x ∈ rangeD lo n → ∃ p : Nat, x = .int p ∧ p < lo + n
  | 0, _, _, h => by simp [rangeD] at h
  | n + 1, lo, x, h => by
    rcases List.mem_cons.mp (show x ∈ D.int lo :: rangeD ((lo : Int) + 1) n from h) with rfl | h
    · exact ⟨lo, rfl, by omega⟩
    · obtain ⟨p, e, hp⟩ := mem_range (n := n) (lo := lo + 1) h
      exact ⟨p, e, by omega⟩
theorem fm_range : ∀ {n lo : Nat} {ys : List D}, Fm (fun x r => ∀ p : Nat, x = .int p → r = some (wD (digs (p + 1)))) (rangeD lo n) ys → ys = (List.range n).map fun p => wD (digs (lo + p + 1))
  | 0, _, _, .nil => rfl
  | n + 1, lo, _, .keep r h => by
    have e := r lo rfl
    cases e
    rw [fm_range (n := n) (lo := lo + 1) h, List.range_succ_eq_map, List.map_cons, List.map_map]
    congr 1
    refine List.map_congr_left fun p _ => ?_
    show wD (digs (lo + 1 + p + 1)) = wD (digs (lo + (p + 1) + 1))
    congr 2
    omega
  | n + 1, lo, _, .skip r h => by
    have e := r lo rfl
    cases e
theorem law_ok {n : Nat} {ns : List Int} (hn : ns.length ≤ 63) : Wp (run P (n + 5) 18 [.rol (ns.map D.int)] []) fun d _ => d = .bl true := by
  refine run_fn f18 rfl (by decide) ?_
  unfold b18
  show Wp (evSs _ _ [some (.rol (ns.map D.int)), none, none, none, none, none, none, none, none, none, none, none, none, none, none, none, none, none] []) _
  (repeat (first | ((with_reducible show Wp (evSs _ _ (List.set _ _ _) _) _); simp only [List.set_cons_succ, List.set_cons_zero]) | with_reducible (first | apply s_cons | apply th_nx | apply th_rt | apply th_bk | apply th_ct | apply s_nil | apply s_set | apply s_par2 | apply s_seti | apply s_ife | apply s_ret | apply s_retN | apply s_exp | apply s_brk | apply s_cnt | apply s_pss | apply s_loop | apply rt_rt | apply rt_nx | apply wh_nx | apply wh_ct | apply wh_bk | apply wh_rt | apply w_int | apply w_non | apply w_bl | apply w_str | apply w_tup | apply w_lst | apply w_dct0 | apply es_nil | apply es_cons | apply w_bin | apply w_neg | apply w_cmp | apply w_chn | apply w_and | apply w_or | apply w_not | apply w_ife | apply w_idx | apply w_slc | apply w_rev | apply w_call | apply w_bi | apply w_isi | apply w_mth | apply w_lc | apply o_no | apply o_so | apply ts_nil | apply ts_cons | apply i_val | apply i_rng1 | apply i_rng2 | apply i_enu | apply i_zip | apply o_addI | apply o_subI | apply b_lenT | apply b_lenR | apply b_abs | apply b_intI | apply b_tupT | apply b_listT | apply l_tup | apply l_rol | apply bo_bl) | ((with_reducible apply s_augA); rfl) | ((with_reducible apply s_augS); rfl) | ((with_reducible apply w_var); rfl) | ((with_reducible apply w_glb); rfl) | ((with_reducible apply w_calk); rfl) | ((fail_if_success (with_reducible show ∃ k, opC .NotIn _ _ _ = some k ∧ _)); (fail_if_success (with_reducible show ∃ k, opC .In _ _ _ = some k ∧ _)); refine ⟨_, rfl, ?_⟩)))
  refine wp_mono (bag_ok f7 hn) ?_
  rintro d s0 ⟨q, b, rfl, B0⟩
  (repeat (first | ((with_reducible show Wp (evSs _ _ (List.set _ _ _) _) _); simp only [List.set_cons_succ, List.set_cons_zero]) | with_reducible (first | apply s_cons | apply th_nx | apply th_rt | apply th_bk | apply th_ct | apply s_nil | apply s_set | apply s_par2 | apply s_seti | apply s_ife | apply s_ret | apply s_retN | apply s_exp | apply s_brk | apply s_cnt | apply s_pss | apply s_loop | apply rt_rt | apply rt_nx | apply wh_nx | apply wh_ct | apply wh_bk | apply wh_rt | apply w_int | apply w_non | apply w_bl | apply w_str | apply w_tup | apply w_lst | apply w_dct0 | apply es_nil | apply es_cons | apply w_bin | apply w_neg | apply w_cmp | apply w_chn | apply w_and | apply w_or | apply w_not | apply w_ife | apply w_idx | apply w_slc | apply w_rev | apply w_call | apply w_bi | apply w_isi | apply w_mth | apply w_lc | apply o_no | apply o_so | apply ts_nil | apply ts_cons | apply i_val | apply i_rng1 | apply i_rng2 | apply i_enu | apply i_zip | apply o_addI | apply o_subI | apply b_lenT | apply b_lenR | apply b_abs | apply b_intI | apply b_tupT | apply b_listT | apply l_tup | apply l_rol | apply bo_bl) | ((with_reducible apply s_augA); rfl) | ((with_reducible apply s_augS); rfl) | ((with_reducible apply w_var); rfl) | ((with_reducible apply w_glb); rfl) | ((with_reducible apply w_calk); rfl) | ((fail_if_success (with_reducible show ∃ k, opC .NotIn _ _ _ = some k ∧ _)); (fail_if_success (with_reducible show ∃ k, opC .In _ _ _ = some k ∧ _)); refine ⟨_, rfl, ?_⟩)))
  refine ⟨by decide, ?_⟩
  refine fo_inv (fun xs e s' => ∃ (x2 x3 x4 x5 x6 x7 x8 x9 x10 x11 x12 x13 x14 x15 x16 x17 : Option D), e = [some (.rol (ns.map D.int)), some (.loc b), x2, x3, x4, x5, x6, x7, x8, x9, x10, x11, x12, x13, x14, x15, x16, x17] ∧ Bag q b s') ?_ ?_ ⟨_, _, _, _, _, _, _, _, _, _, _, _, _, _, _, _, rfl, B0⟩
  · rintro x xs e s' ⟨x2, x3, x4, x5, x6, x7, x8, x9, x10, x11, x12, x13, x14, x15, x16, x17, rfl, B⟩
    refine ⟨fo_none, _, rfl, ?_⟩
    have push : ∀ {s1 : Sto} (c : C), Bag q b s1 → Bag q b (s1 ++ [c]) := fun c B => B.kx (Kx.refl.push c) (X := []) (by simp) (by simp)
    have off : ∀ {s1 : Sto}, Bag q b s1 → s1.length ≠ q ∧ s1.length ≠ b := fun B => by have := B.lt; omega
    (repeat (first | ((with_reducible show Wp (evSs _ _ (List.set _ _ _) _) _); simp only [List.set_cons_succ, List.set_cons_zero]) | with_reducible (first | apply s_cons | apply th_nx | apply th_rt | apply th_bk | apply th_ct | apply s_nil | apply s_set | apply s_par2 | apply s_seti | apply s_ife | apply s_ret | apply s_retN | apply s_exp | apply s_brk | apply s_cnt | apply s_pss | apply s_loop | apply rt_rt | apply rt_nx | apply wh_nx | apply wh_ct | apply wh_bk | apply wh_rt | apply w_int | apply w_non | apply w_bl | apply w_str | apply w_tup | apply w_lst | apply w_dct0 | apply es_nil | apply es_cons | apply w_bin | apply w_neg | apply w_cmp | apply w_chn | apply w_and | apply w_or | apply w_not | apply w_ife | apply w_idx | apply w_slc | apply w_rev | apply w_call | apply w_bi | apply w_isi | apply w_mth | apply w_lc | apply o_no | apply o_so | apply ts_nil | apply ts_cons | apply i_val | apply i_rng1 | apply i_rng2 | apply i_enu | apply i_zip | apply o_addI | apply o_subI | apply b_lenT | apply b_lenR | apply b_abs | apply b_intI | apply b_tupT | apply b_listT | apply l_tup | apply l_rol | apply bo_bl) | ((with_reducible apply s_augA); rfl) | ((with_reducible apply s_augS); rfl) | ((with_reducible apply w_var); rfl) | ((with_reducible apply w_glb); rfl) | ((with_reducible apply w_calk); rfl) | ((fail_if_success (with_reducible show ∃ k, opC .NotIn _ _ _ = some k ∧ _)); (fail_if_success (with_reducible show ∃ k, opC .In _ _ _ = some k ∧ _)); refine ⟨_, rfl, ?_⟩)))
    refine wp_mono (pick_ok f9 f8 rfl (push _ B) push_at (off B).1 (off B).2 (by simp) (by simp)) ?_
    rintro d s1 ⟨hd, B1, -⟩
    obtain ⟨m, rfl, m0, m1⟩ : ∃ m : Int, d = .int m ∧ 0 ≤ m ∧ m ≤ 30 := by
      simp only [List.mem_cons, List.not_mem_nil, or_false] at hd
      rcases hd with rfl | rfl | rfl <;> exact ⟨_, rfl, by decide, by decide⟩
    (repeat (first | ((with_reducible show Wp (evSs _ _ (List.set _ _ _) _) _); simp only [List.set_cons_succ, List.set_cons_zero]) | with_reducible (first | apply s_cons | apply th_nx | apply th_rt | apply th_bk | apply th_ct | apply s_nil | apply s_set | apply s_par2 | apply s_seti | apply s_ife | apply s_ret | apply s_retN | apply s_exp | apply s_brk | apply s_cnt | apply s_pss | apply s_loop | apply rt_rt | apply rt_nx | apply wh_nx | apply wh_ct | apply wh_bk | apply wh_rt | apply w_int | apply w_non | apply w_bl | apply w_str | apply w_tup | apply w_lst | apply w_dct0 | apply es_nil | apply es_cons | apply w_bin | apply w_neg | apply w_cmp | apply w_chn | apply w_and | apply w_or | apply w_not | apply w_ife | apply w_idx | apply w_slc | apply w_rev | apply w_call | apply w_bi | apply w_isi | apply w_mth | apply w_lc | apply o_no | apply o_so | apply ts_nil | apply ts_cons | apply i_val | apply i_rng1 | apply i_rng2 | apply i_enu | apply i_zip | apply o_addI | apply o_subI | apply b_lenT | apply b_lenR | apply b_abs | apply b_intI | apply b_tupT | apply b_listT | apply l_tup | apply l_rol | apply bo_bl) | ((with_reducible apply s_augA); rfl) | ((with_reducible apply s_augS); rfl) | ((with_reducible apply w_var); rfl) | ((with_reducible apply w_glb); rfl) | ((with_reducible apply w_calk); rfl) | ((fail_if_success (with_reducible show ∃ k, opC .NotIn _ _ _ = some k ∧ _)); (fail_if_success (with_reducible show ∃ k, opC .In _ _ _ = some k ∧ _)); refine ⟨_, rfl, ?_⟩)))
    refine wp_mono (word_ok B1 m0 (by omega)) ?_
    rintro d s2 ⟨bs, rfl, hb, hl, B2, -⟩
    have hl3 : bs.length ≤ 30 := by omega
    (repeat (first | ((with_reducible show Wp (evSs _ _ (List.set _ _ _) _) _); simp only [List.set_cons_succ, List.set_cons_zero]) | with_reducible (first | apply s_cons | apply th_nx | apply th_rt | apply th_bk | apply th_ct | apply s_nil | apply s_set | apply s_par2 | apply s_seti | apply s_ife | apply s_ret | apply s_retN | apply s_exp | apply s_brk | apply s_cnt | apply s_pss | apply s_loop | apply rt_rt | apply rt_nx | apply wh_nx | apply wh_ct | apply wh_bk | apply wh_rt | apply w_int | apply w_non | apply w_bl | apply w_str | apply w_tup | apply w_lst | apply w_dct0 | apply es_nil | apply es_cons | apply w_bin | apply w_neg | apply w_cmp | apply w_chn | apply w_and | apply w_or | apply w_not | apply w_idx | apply w_slc | apply w_rev | apply w_call | apply w_bi | apply w_isi | apply w_mth | apply w_lc | apply o_no | apply o_so | apply ts_nil | apply ts_cons | apply i_val | apply i_rng1 | apply i_rng2 | apply i_enu | apply i_zip | apply o_addI | apply o_subI | apply b_lenT | apply b_lenR | apply b_abs | apply b_intI | apply b_tupT | apply b_listT | apply l_tup | apply l_rol | apply bo_bl) | ((with_reducible apply s_augA); rfl) | ((with_reducible apply s_augS); rfl) | ((with_reducible apply w_var); rfl) | ((with_reducible apply w_glb); rfl) | ((with_reducible apply w_calk); rfl) | ((fail_if_success (with_reducible show ∃ k, opC .NotIn _ _ _ = some k ∧ _)); (fail_if_success (with_reducible show ∃ k, opC .In _ _ _ = some k ∧ _)); refine ⟨_, rfl, ?_⟩)))
    refine wp_mono (endE rfl) ?_
    rintro d s3 ⟨rfl, rfl⟩
    (repeat (first | ((with_reducible show Wp (evSs _ _ (List.set _ _ _) _) _); simp only [List.set_cons_succ, List.set_cons_zero]) | with_reducible (first | apply s_cons | apply th_nx | apply th_rt | apply th_bk | apply th_ct | apply s_nil | apply s_set | apply s_par2 | apply s_seti | apply s_ife | apply s_ret | apply s_retN | apply s_exp | apply s_brk | apply s_cnt | apply s_pss | apply s_loop | apply rt_rt | apply rt_nx | apply wh_nx | apply wh_ct | apply wh_bk | apply wh_rt | apply w_int | apply w_non | apply w_bl | apply w_str | apply w_tup | apply w_lst | apply w_dct0 | apply es_nil | apply es_cons | apply w_bin | apply w_neg | apply w_cmp | apply w_chn | apply w_and | apply w_or | apply w_not | apply w_ife | apply w_idx | apply w_slc | apply w_rev | apply w_call | apply w_bi | apply w_isi | apply w_mth | apply w_lc | apply o_no | apply o_so | apply ts_nil | apply ts_cons | apply i_val | apply i_rng1 | apply i_rng2 | apply i_enu | apply i_zip | apply o_addI | apply o_subI | apply b_lenT | apply b_lenR | apply b_abs | apply b_intI | apply b_tupT | apply b_listT | apply l_tup | apply l_rol | apply bo_bl) | ((with_reducible apply s_augA); rfl) | ((with_reducible apply s_augS); rfl) | ((with_reducible apply w_var); rfl) | ((with_reducible apply w_glb); rfl) | ((with_reducible apply w_calk); rfl) | ((fail_if_success (with_reducible show ∃ k, opC .NotIn _ _ _ = some k ∧ _)); (fail_if_success (with_reducible show ∃ k, opC .In _ _ _ = some k ∧ _)); refine ⟨_, rfl, ?_⟩)))
    refine b_sum (xs := bs.map D.int) rfl (ints_of bs) ?_
    (repeat (first | ((with_reducible show Wp (evSs _ _ (List.set _ _ _) _) _); simp only [List.set_cons_succ, List.set_cons_zero]) | with_reducible (first | apply s_cons | apply th_nx | apply th_rt | apply th_bk | apply th_ct | apply s_nil | apply s_set | apply s_par2 | apply s_seti | apply s_ife | apply s_ret | apply s_retN | apply s_exp | apply s_brk | apply s_cnt | apply s_pss | apply s_loop | apply rt_rt | apply rt_nx | apply wh_nx | apply wh_ct | apply wh_bk | apply wh_rt | apply w_int | apply w_non | apply w_bl | apply w_str | apply w_tup | apply w_lst | apply w_dct0 | apply es_nil | apply es_cons | apply w_bin | apply w_neg | apply w_cmp | apply w_chn | apply w_and | apply w_or | apply w_not | apply w_ife | apply w_idx | apply w_slc | apply w_rev | apply w_call | apply w_bi | apply w_isi | apply w_mth | apply w_lc | apply o_no | apply o_so | apply ts_nil | apply ts_cons | apply i_val | apply i_rng1 | apply i_rng2 | apply i_enu | apply i_zip | apply o_addI | apply o_subI | apply b_lenT | apply b_lenR | apply b_abs | apply b_intI | apply b_tupT | apply b_listT | apply l_tup | apply l_rol | apply bo_bl) | ((with_reducible apply s_augA); rfl) | ((with_reducible apply s_augS); rfl) | ((with_reducible apply w_var); rfl) | ((with_reducible apply w_glb); rfl) | ((with_reducible apply w_calk); rfl) | ((fail_if_success (with_reducible show ∃ k, opC .NotIn _ _ _ = some k ∧ _)); (fail_if_success (with_reducible show ∃ k, opC .In _ _ _ = some k ∧ _)); refine ⟨_, rfl, ?_⟩)))
    refine wp_mono end_ok ?_
    rintro d s4 ⟨rfl, rfl⟩
    (repeat (first | ((with_reducible show Wp (evSs _ _ (List.set _ _ _) _) _); simp only [List.set_cons_succ, List.set_cons_zero]) | with_reducible (first | apply s_cons | apply th_nx | apply th_rt | apply th_bk | apply th_ct | apply s_nil | apply s_set | apply s_par2 | apply s_seti | apply s_ife | apply s_ret | apply s_retN | apply s_exp | apply s_brk | apply s_cnt | apply s_pss | apply s_loop | apply rt_rt | apply rt_nx | apply wh_nx | apply wh_ct | apply wh_bk | apply wh_rt | apply w_int | apply w_non | apply w_bl | apply w_str | apply w_tup | apply w_lst | apply w_dct0 | apply es_nil | apply es_cons | apply w_bin | apply w_neg | apply w_cmp | apply w_chn | apply w_and | apply w_or | apply w_not | apply w_ife | apply w_idx | apply w_slc | apply w_rev | apply w_call | apply w_bi | apply w_isi | apply w_mth | apply w_lc | apply o_no | apply o_so | apply ts_nil | apply ts_cons | apply i_val | apply i_rng1 | apply i_rng2 | apply i_enu | apply i_zip | apply o_addI | apply o_subI | apply b_lenT | apply b_lenR | apply b_abs | apply b_intI | apply b_tupT | apply b_listT | apply l_tup | apply l_rol | apply bo_bl) | ((with_reducible apply s_augA); rfl) | ((with_reducible apply s_augS); rfl) | ((with_reducible apply w_var); rfl) | ((with_reducible apply w_glb); rfl) | ((with_reducible apply w_calk); rfl) | ((fail_if_success (with_reducible show ∃ k, opC .NotIn _ _ _ = some k ∧ _)); (fail_if_success (with_reducible show ∃ k, opC .In _ _ _ = some k ∧ _)); refine ⟨_, rfl, ?_⟩)))
    refine wp_mono end_ok ?_
    rintro d s5 ⟨rfl, rfl⟩
    have p1 : Pus 100 0 2 [lastD bs, lastD bs] := vas_cons (n := 0) (lastD_pu hb) (vas_cons (n := 0) (m := 0) (lastD_pu hb) vas_nil)
    (repeat (first | ((with_reducible show Wp (evSs _ _ (List.set _ _ _) _) _); simp only [List.set_cons_succ, List.set_cons_zero]) | with_reducible (first | apply s_cons | apply th_nx | apply th_rt | apply th_bk | apply th_ct | apply s_nil | apply s_set | apply s_par2 | apply s_seti | apply s_ife | apply s_ret | apply s_retN | apply s_exp | apply s_brk | apply s_cnt | apply s_pss | apply s_loop | apply rt_rt | apply rt_nx | apply wh_nx | apply wh_ct | apply wh_bk | apply wh_rt | apply w_int | apply w_non | apply w_bl | apply w_str | apply w_tup | apply w_lst | apply w_dct0 | apply es_nil | apply es_cons | apply w_bin | apply w_neg | apply w_cmp | apply w_chn | apply w_and | apply w_or | apply w_not | apply w_ife | apply w_idx | apply w_slc | apply w_rev | apply w_call | apply w_bi | apply w_isi | apply w_mth | apply w_lc | apply o_no | apply o_so | apply ts_nil | apply ts_cons | apply i_val | apply i_rng1 | apply i_rng2 | apply i_enu | apply i_zip | apply o_addI | apply o_subI | apply b_lenT | apply b_lenR | apply b_abs | apply b_intI | apply b_tupT | apply b_listT | apply l_tup | apply l_rol | apply bo_bl) | ((with_reducible apply s_augA); rfl) | ((with_reducible apply s_augS); rfl) | ((with_reducible apply w_var); rfl) | ((with_reducible apply w_glb); rfl) | ((with_reducible apply w_calk); rfl) | ((fail_if_success (with_reducible show ∃ k, opC .NotIn _ _ _ = some k ∧ _)); (fail_if_success (with_reducible show ∃ k, opC .In _ _ _ = some k ∧ _)); refine ⟨_, rfl, ?_⟩)))
    refine b_repr (rep_pure push_at p1 (by decide) (by decide) (by rw [sizeLine_eq]; decide)) ?_
    (repeat (first | ((with_reducible show Wp (evSs _ _ (List.set _ _ _) _) _); simp only [List.set_cons_succ, List.set_cons_zero]) | with_reducible (first | apply s_cons | apply th_nx | apply th_rt | apply th_bk | apply th_ct | apply s_nil | apply s_set | apply s_par2 | apply s_seti | apply s_ife | apply s_ret | apply s_retN | apply s_exp | apply s_brk | apply s_cnt | apply s_pss | apply s_loop | apply rt_rt | apply rt_nx | apply wh_nx | apply wh_ct | apply wh_bk | apply wh_rt | apply w_int | apply w_non | apply w_bl | apply w_str | apply w_tup | apply w_lst | apply w_dct0 | apply es_nil | apply es_cons | apply w_bin | apply w_neg | apply w_cmp | apply w_chn | apply w_and | apply w_or | apply w_not | apply w_ife | apply w_idx | apply w_slc | apply w_rev | apply w_call | apply w_bi | apply w_isi | apply w_mth | apply w_lc | apply o_no | apply o_so | apply ts_nil | apply ts_cons | apply i_val | apply i_rng1 | apply i_rng2 | apply i_enu | apply i_zip | apply o_addI | apply o_subI | apply b_lenT | apply b_lenR | apply b_abs | apply b_intI | apply b_tupT | apply b_listT | apply l_tup | apply l_rol | apply bo_bl) | ((with_reducible apply s_augA); rfl) | ((with_reducible apply s_augS); rfl) | ((with_reducible apply w_var); rfl) | ((with_reducible apply w_glb); rfl) | ((with_reducible apply w_calk); rfl) | ((fail_if_success (with_reducible show ∃ k, opC .NotIn _ _ _ = some k ∧ _)); (fail_if_success (with_reducible show ∃ k, opC .In _ _ _ = some k ∧ _)); refine ⟨_, rfl, ?_⟩)))
    refine b_repr (rep_pure push_at p1 (by decide) (by decide) (by rw [sizeLine_eq]; decide)) ?_
    (repeat (first | ((with_reducible show Wp (evSs _ _ (List.set _ _ _) _) _); simp only [List.set_cons_succ, List.set_cons_zero]) | with_reducible (first | apply s_cons | apply th_nx | apply th_rt | apply th_bk | apply th_ct | apply s_nil | apply s_set | apply s_par2 | apply s_seti | apply s_ife | apply s_ret | apply s_retN | apply s_exp | apply s_brk | apply s_cnt | apply s_pss | apply s_loop | apply rt_rt | apply rt_nx | apply wh_nx | apply wh_ct | apply wh_bk | apply wh_rt | apply w_int | apply w_non | apply w_bl | apply w_str | apply w_tup | apply w_lst | apply w_dct0 | apply es_nil | apply es_cons | apply w_bin | apply w_neg | apply w_cmp | apply w_chn | apply w_and | apply w_or | apply w_not | apply w_ife | apply w_idx | apply w_slc | apply w_rev | apply w_call | apply w_bi | apply w_isi | apply w_mth | apply w_lc | apply o_no | apply o_so | apply ts_nil | apply ts_cons | apply i_val | apply i_rng1 | apply i_rng2 | apply i_enu | apply i_zip | apply o_addI | apply o_subI | apply b_lenT | apply b_lenR | apply b_abs | apply b_intI | apply b_tupT | apply b_listT | apply l_tup | apply l_rol | apply bo_bl) | ((with_reducible apply s_augA); rfl) | ((with_reducible apply s_augS); rfl) | ((with_reducible apply w_var); rfl) | ((with_reducible apply w_glb); rfl) | ((with_reducible apply w_calk); rfl) | ((fail_if_success (with_reducible show ∃ k, opC .NotIn _ _ _ = some k ∧ _)); (fail_if_success (with_reducible show ∃ k, opC .In _ _ _ = some k ∧ _)); refine ⟨_, rfl, ?_⟩)))
    refine ⟨fun e => by simp at e, fun _ => ?_⟩
    (repeat (first | ((with_reducible show Wp (evSs _ _ (List.set _ _ _) _) _); simp only [List.set_cons_succ, List.set_cons_zero]) | with_reducible (first | apply s_cons | apply th_nx | apply th_rt | apply th_bk | apply th_ct | apply s_nil | apply s_set | apply s_par2 | apply s_seti | apply s_ife | apply s_ret | apply s_retN | apply s_exp | apply s_brk | apply s_cnt | apply s_pss | apply s_loop | apply rt_rt | apply rt_nx | apply wh_nx | apply wh_ct | apply wh_bk | apply wh_rt | apply w_int | apply w_non | apply w_bl | apply w_str | apply w_tup | apply w_lst | apply w_dct0 | apply es_nil | apply es_cons | apply w_bin | apply w_neg | apply w_cmp | apply w_chn | apply w_and | apply w_or | apply w_not | apply w_ife | apply w_idx | apply w_slc | apply w_rev | apply w_call | apply w_bi | apply w_isi | apply w_mth | apply w_lc | apply o_no | apply o_so | apply ts_nil | apply ts_cons | apply i_val | apply i_rng1 | apply i_rng2 | apply i_enu | apply i_zip | apply o_addI | apply o_subI | apply b_lenT | apply b_lenR | apply b_abs | apply b_intI | apply b_tupT | apply b_listT | apply l_tup | apply l_rol | apply bo_bl) | ((with_reducible apply s_augA); rfl) | ((with_reducible apply s_augS); rfl) | ((with_reducible apply w_var); rfl) | ((with_reducible apply w_glb); rfl) | ((with_reducible apply w_calk); rfl) | ((fail_if_success (with_reducible show ∃ k, opC .NotIn _ _ _ = some k ∧ _)); (fail_if_success (with_reducible show ∃ k, opC .In _ _ _ = some k ∧ _)); refine ⟨_, rfl, ?_⟩)))
    refine wp_mono counted_ok ?_
    rintro d s6 ⟨rfl, rfl⟩
    (repeat (first | ((with_reducible show Wp (evSs _ _ (List.set _ _ _) _) _); simp only [List.set_cons_succ, List.set_cons_zero]) | with_reducible (first | apply s_cons | apply th_nx | apply th_rt | apply th_bk | apply th_ct | apply s_nil | apply s_set | apply s_par2 | apply s_seti | apply s_ife | apply s_ret | apply s_retN | apply s_exp | apply s_brk | apply s_cnt | apply s_pss | apply s_loop | apply rt_rt | apply rt_nx | apply wh_nx | apply wh_ct | apply wh_bk | apply wh_rt | apply w_int | apply w_non | apply w_bl | apply w_str | apply w_tup | apply w_lst | apply w_dct0 | apply es_nil | apply es_cons | apply w_bin | apply w_neg | apply w_cmp | apply w_chn | apply w_and | apply w_or | apply w_not | apply w_ife | apply w_idx | apply w_slc | apply w_rev | apply w_call | apply w_bi | apply w_isi | apply w_mth | apply w_lc | apply o_no | apply o_so | apply ts_nil | apply ts_cons | apply i_val | apply i_rng1 | apply i_rng2 | apply i_enu | apply i_zip | apply o_addI | apply o_subI | apply b_lenT | apply b_lenR | apply b_abs | apply b_intI | apply b_tupT | apply b_listT | apply l_tup | apply l_rol | apply bo_bl) | ((with_reducible apply s_augA); rfl) | ((with_reducible apply s_augS); rfl) | ((with_reducible apply w_var); rfl) | ((with_reducible apply w_glb); rfl) | ((with_reducible apply w_calk); rfl) | ((fail_if_success (with_reducible show ∃ k, opC .NotIn _ _ _ = some k ∧ _)); (fail_if_success (with_reducible show ∃ k, opC .In _ _ _ = some k ∧ _)); refine ⟨_, rfl, ?_⟩)))
    refine wp_mono counted_ok ?_
    rintro d s7 ⟨rfl, rfl⟩
    have sm : ∀ (cs : List Int), Bits cs → 0 ≤ cs.sum ∧ cs.sum ≤ cs.length := fun cs => by
      induction cs with
      | nil => intro _; exact ⟨by decide, by decide⟩
      | cons c cs ih =>
        intro h
        have h1 := ih fun x hx => h x (List.mem_cons_of_mem _ hx)
        have h2 := h c List.mem_cons_self
        simp only [List.sum_cons, List.length_cons]
        omega
    have smb := sm bs hb
    have p2 : Pus 100 1 6 [.tup [.int ((bs.map D.int).length - bs.sum), .int bs.sum], .tup [.int ((bs.map D.int).length - bs.sum), .int bs.sum]] := by
      have t : Pu 100 1 2 (.tup [.int ((bs.map D.int).length - bs.sum), .int bs.sum]) := va_tup (k := 0) (vas_cons (n := 0) (pu_int (by rw [List.length_map]; omega)) (vas_cons (n := 0) (m := 0) (pu_int (by omega)) vas_nil))
      exact vas_cons t (vas_cons (m := 0) t vas_nil)
    (repeat (first | ((with_reducible show Wp (evSs _ _ (List.set _ _ _) _) _); simp only [List.set_cons_succ, List.set_cons_zero]) | with_reducible (first | apply s_cons | apply th_nx | apply th_rt | apply th_bk | apply th_ct | apply s_nil | apply s_set | apply s_par2 | apply s_seti | apply s_ife | apply s_ret | apply s_retN | apply s_exp | apply s_brk | apply s_cnt | apply s_pss | apply s_loop | apply rt_rt | apply rt_nx | apply wh_nx | apply wh_ct | apply wh_bk | apply wh_rt | apply w_int | apply w_non | apply w_bl | apply w_str | apply w_tup | apply w_lst | apply w_dct0 | apply es_nil | apply es_cons | apply w_bin | apply w_neg | apply w_cmp | apply w_chn | apply w_and | apply w_or | apply w_not | apply w_ife | apply w_idx | apply w_slc | apply w_rev | apply w_call | apply w_bi | apply w_isi | apply w_mth | apply w_lc | apply o_no | apply o_so | apply ts_nil | apply ts_cons | apply i_val | apply i_rng1 | apply i_rng2 | apply i_enu | apply i_zip | apply o_addI | apply o_subI | apply b_lenT | apply b_lenR | apply b_abs | apply b_intI | apply b_tupT | apply b_listT | apply l_tup | apply l_rol | apply bo_bl) | ((with_reducible apply s_augA); rfl) | ((with_reducible apply s_augS); rfl) | ((with_reducible apply w_var); rfl) | ((with_reducible apply w_glb); rfl) | ((with_reducible apply w_calk); rfl) | ((fail_if_success (with_reducible show ∃ k, opC .NotIn _ _ _ = some k ∧ _)); (fail_if_success (with_reducible show ∃ k, opC .In _ _ _ = some k ∧ _)); refine ⟨_, rfl, ?_⟩)))
    refine b_repr (rep_pure push_at p2 (by decide) (by decide) (by rw [sizeLine_eq]; decide)) ?_
    (repeat (first | ((with_reducible show Wp (evSs _ _ (List.set _ _ _) _) _); simp only [List.set_cons_succ, List.set_cons_zero]) | with_reducible (first | apply s_cons | apply th_nx | apply th_rt | apply th_bk | apply th_ct | apply s_nil | apply s_set | apply s_par2 | apply s_seti | apply s_ife | apply s_ret | apply s_retN | apply s_exp | apply s_brk | apply s_cnt | apply s_pss | apply s_loop | apply rt_rt | apply rt_nx | apply wh_nx | apply wh_ct | apply wh_bk | apply wh_rt | apply w_int | apply w_non | apply w_bl | apply w_str | apply w_tup | apply w_lst | apply w_dct0 | apply es_nil | apply es_cons | apply w_bin | apply w_neg | apply w_cmp | apply w_chn | apply w_and | apply w_or | apply w_not | apply w_ife | apply w_idx | apply w_slc | apply w_rev | apply w_call | apply w_bi | apply w_isi | apply w_mth | apply w_lc | apply o_no | apply o_so | apply ts_nil | apply ts_cons | apply i_val | apply i_rng1 | apply i_rng2 | apply i_enu | apply i_zip | apply o_addI | apply o_subI | apply b_lenT | apply b_lenR | apply b_abs | apply b_intI | apply b_tupT | apply b_listT | apply l_tup | apply l_rol | apply bo_bl) | ((with_reducible apply s_augA); rfl) | ((with_reducible apply s_augS); rfl) | ((with_reducible apply w_var); rfl) | ((with_reducible apply w_glb); rfl) | ((with_reducible apply w_calk); rfl) | ((fail_if_success (with_reducible show ∃ k, opC .NotIn _ _ _ = some k ∧ _)); (fail_if_success (with_reducible show ∃ k, opC .In _ _ _ = some k ∧ _)); refine ⟨_, rfl, ?_⟩)))
    refine o_mulL push_at (by simp) ?_
    (repeat (first | ((with_reducible show Wp (evSs _ _ (List.set _ _ _) _) _); simp only [List.set_cons_succ, List.set_cons_zero]) | with_reducible (first | apply s_cons | apply th_nx | apply th_rt | apply th_bk | apply th_ct | apply s_nil | apply s_set | apply s_par2 | apply s_seti | apply s_ife | apply s_ret | apply s_retN | apply s_exp | apply s_brk | apply s_cnt | apply s_pss | apply s_loop | apply rt_rt | apply rt_nx | apply wh_nx | apply wh_ct | apply wh_bk | apply wh_rt | apply w_int | apply w_non | apply w_bl | apply w_str | apply w_tup | apply w_lst | apply w_dct0 | apply es_nil | apply es_cons | apply w_bin | apply w_neg | apply w_cmp | apply w_chn | apply w_and | apply w_or | apply w_not | apply w_ife | apply w_idx | apply w_slc | apply w_rev | apply w_call | apply w_bi | apply w_isi | apply w_mth | apply w_lc | apply o_no | apply o_so | apply ts_nil | apply ts_cons | apply i_val | apply i_rng1 | apply i_rng2 | apply i_enu | apply i_zip | apply o_addI | apply o_subI | apply b_lenT | apply b_lenR | apply b_abs | apply b_intI | apply b_tupT | apply b_listT | apply l_tup | apply l_rol | apply bo_bl) | ((with_reducible apply s_augA); rfl) | ((with_reducible apply s_augS); rfl) | ((with_reducible apply w_var); rfl) | ((with_reducible apply w_glb); rfl) | ((with_reducible apply w_calk); rfl) | ((fail_if_success (with_reducible show ∃ k, opC .NotIn _ _ _ = some k ∧ _)); (fail_if_success (with_reducible show ∃ k, opC .In _ _ _ = some k ∧ _)); refine ⟨_, rfl, ?_⟩)))
    refine b_repr (rep_pure push_at p2 (by decide) (by decide) (by rw [sizeLine_eq]; decide)) ?_
    (repeat (first | ((with_reducible show Wp (evSs _ _ (List.set _ _ _) _) _); simp only [List.set_cons_succ, List.set_cons_zero]) | with_reducible (first | apply s_cons | apply th_nx | apply th_rt | apply th_bk | apply th_ct | apply s_nil | apply s_set | apply s_par2 | apply s_seti | apply s_ife | apply s_ret | apply s_retN | apply s_exp | apply s_brk | apply s_cnt | apply s_pss | apply s_loop | apply rt_rt | apply rt_nx | apply wh_nx | apply wh_ct | apply wh_bk | apply wh_rt | apply w_int | apply w_non | apply w_bl | apply w_str | apply w_tup | apply w_lst | apply w_dct0 | apply es_nil | apply es_cons | apply w_bin | apply w_neg | apply w_cmp | apply w_chn | apply w_and | apply w_or | apply w_not | apply w_ife | apply w_idx | apply w_slc | apply w_rev | apply w_call | apply w_bi | apply w_isi | apply w_mth | apply w_lc | apply o_no | apply o_so | apply ts_nil | apply ts_cons | apply i_val | apply i_rng1 | apply i_rng2 | apply i_enu | apply i_zip | apply o_addI | apply o_subI | apply b_lenT | apply b_lenR | apply b_abs | apply b_intI | apply b_tupT | apply b_listT | apply l_tup | apply l_rol | apply bo_bl) | ((with_reducible apply s_augA); rfl) | ((with_reducible apply s_augS); rfl) | ((with_reducible apply w_var); rfl) | ((with_reducible apply w_glb); rfl) | ((with_reducible apply w_calk); rfl) | ((fail_if_success (with_reducible show ∃ k, opC .NotIn _ _ _ = some k ∧ _)); (fail_if_success (with_reducible show ∃ k, opC .In _ _ _ = some k ∧ _)); refine ⟨_, rfl, ?_⟩)))
    refine ⟨fun e => by simp at e, fun _ => ?_⟩
    refine s_nil (th_cut (R := Bag q b) (by repeat (first | exact B2 | refine push _ ?_)) fun S BS => ?_)
    have lq := BS.lt
    have eb := el_bits hb
    have wl : (bs.map D.int).length = bs.length := List.length_map ..
    have szw : ∀ d : D, (bs.map D.int).length + [d].length ≤ sizeLine := fun d => by rw [sizeLine_eq, wl]; simp only [List.length_cons, List.length_nil]; omega
    (repeat (first | ((with_reducible show Wp (evSs _ _ (List.set _ _ _) _) _); simp only [List.set_cons_succ, List.set_cons_zero]) | with_reducible (first | apply s_cons | apply th_nx | apply th_rt | apply th_bk | apply th_ct | apply s_nil | apply s_set | apply s_par2 | apply s_seti | apply s_ife | apply s_ret | apply s_retN | apply s_exp | apply s_brk | apply s_cnt | apply s_pss | apply s_loop | apply rt_rt | apply rt_nx | apply wh_nx | apply wh_ct | apply wh_bk | apply wh_rt | apply w_int | apply w_non | apply w_bl | apply w_str | apply w_tup | apply w_lst | apply w_dct0 | apply es_nil | apply es_cons | apply w_bin | apply w_neg | apply w_cmp | apply w_chn | apply w_and | apply w_or | apply w_not | apply w_ife | apply w_idx | apply w_slc | apply w_rev | apply w_call | apply w_bi | apply w_isi | apply w_mth | apply w_lc | apply o_no | apply o_so | apply ts_nil | apply ts_cons | apply i_val | apply i_rng1 | apply i_rng2 | apply i_enu | apply i_zip | apply o_addI | apply o_subI | apply b_lenT | apply b_lenR | apply b_abs | apply b_intI | apply b_tupT | apply b_listT | apply l_tup | apply l_rol | apply bo_bl) | ((with_reducible apply s_augA); rfl) | ((with_reducible apply s_augS); rfl) | ((with_reducible apply w_var); rfl) | ((with_reducible apply w_glb); rfl) | ((with_reducible apply w_calk); rfl) | ((fail_if_success (with_reducible show ∃ k, opC .NotIn _ _ _ = some k ∧ _)); (fail_if_success (with_reducible show ∃ k, opC .In _ _ _ = some k ∧ _)); refine ⟨_, rfl, ?_⟩)))
    refine o_addT (szw _) ?_
    (repeat (first | ((with_reducible show Wp (evSs _ _ (List.set _ _ _) _) _); simp only [List.set_cons_succ, List.set_cons_zero]) | with_reducible (first | apply s_cons | apply th_nx | apply th_rt | apply th_bk | apply th_ct | apply s_nil | apply s_set | apply s_par2 | apply s_seti | apply s_ife | apply s_ret | apply s_retN | apply s_exp | apply s_brk | apply s_cnt | apply s_pss | apply s_loop | apply rt_rt | apply rt_nx | apply wh_nx | apply wh_ct | apply wh_bk | apply wh_rt | apply w_int | apply w_non | apply w_bl | apply w_str | apply w_tup | apply w_lst | apply w_dct0 | apply es_nil | apply es_cons | apply w_bin | apply w_neg | apply w_cmp | apply w_chn | apply w_and | apply w_or | apply w_not | apply w_ife | apply w_idx | apply w_slc | apply w_rev | apply w_call | apply w_bi | apply w_isi | apply w_mth | apply w_lc | apply o_no | apply o_so | apply ts_nil | apply ts_cons | apply i_val | apply i_rng1 | apply i_rng2 | apply i_enu | apply i_zip | apply o_addI | apply o_subI | apply b_lenT | apply b_lenR | apply b_abs | apply b_intI | apply b_tupT | apply b_listT | apply l_tup | apply l_rol | apply bo_bl) | ((with_reducible apply s_augA); rfl) | ((with_reducible apply s_augS); rfl) | ((with_reducible apply w_var); rfl) | ((with_reducible apply w_glb); rfl) | ((with_reducible apply w_calk); rfl) | ((fail_if_success (with_reducible show ∃ k, opC .NotIn _ _ _ = some k ∧ _)); (fail_if_success (with_reducible show ∃ k, opC .In _ _ _ = some k ∧ _)); refine ⟨_, rfl, ?_⟩)))
    refine wp_mono (odd_ok (push _ BS)) ?_
    rintro od s8 ⟨gv, B8, K8⟩
    (repeat (first | ((with_reducible show Wp (evSs _ _ (List.set _ _ _) _) _); simp only [List.set_cons_succ, List.set_cons_zero]) | with_reducible (first | apply s_cons | apply th_nx | apply th_rt | apply th_bk | apply th_ct | apply s_nil | apply s_set | apply s_par2 | apply s_seti | apply s_ife | apply s_ret | apply s_retN | apply s_exp | apply s_brk | apply s_cnt | apply s_pss | apply s_loop | apply rt_rt | apply rt_nx | apply wh_nx | apply wh_ct | apply wh_bk | apply wh_rt | apply w_int | apply w_non | apply w_bl | apply w_str | apply w_tup | apply w_lst | apply w_dct0 | apply es_nil | apply es_cons | apply w_bin | apply w_neg | apply w_cmp | apply w_chn | apply w_and | apply w_or | apply w_not | apply w_ife | apply w_idx | apply w_slc | apply w_rev | apply w_call | apply w_bi | apply w_isi | apply w_mth | apply w_lc | apply o_no | apply o_so | apply ts_nil | apply ts_cons | apply i_val | apply i_rng1 | apply i_rng2 | apply i_enu | apply i_zip | apply o_addI | apply o_subI | apply b_lenT | apply b_lenR | apply b_abs | apply b_intI | apply b_tupT | apply b_listT | apply l_tup | apply l_rol | apply bo_bl) | ((with_reducible apply s_augA); rfl) | ((with_reducible apply s_augS); rfl) | ((with_reducible apply w_var); rfl) | ((with_reducible apply w_glb); rfl) | ((with_reducible apply w_calk); rfl) | ((fail_if_success (with_reducible show ∃ k, opC .NotIn _ _ _ = some k ∧ _)); (fail_if_success (with_reducible show ∃ k, opC .In _ _ _ = some k ∧ _)); refine ⟨_, rfl, ?_⟩)))
    refine b_dict1 push_at ?_
    (repeat (first | ((with_reducible show Wp (evSs _ _ (List.set _ _ _) _) _); simp only [List.set_cons_succ, List.set_cons_zero]) | with_reducible (first | apply s_cons | apply th_nx | apply th_rt | apply th_bk | apply th_ct | apply s_nil | apply s_set | apply s_par2 | apply s_seti | apply s_ife | apply s_ret | apply s_retN | apply s_exp | apply s_brk | apply s_cnt | apply s_pss | apply s_loop | apply rt_rt | apply rt_nx | apply wh_nx | apply wh_ct | apply wh_bk | apply wh_rt | apply w_int | apply w_non | apply w_bl | apply w_str | apply w_tup | apply w_lst | apply w_dct0 | apply es_nil | apply es_cons | apply w_bin | apply w_neg | apply w_cmp | apply w_chn | apply w_and | apply w_or | apply w_not | apply w_ife | apply w_idx | apply w_slc | apply w_rev | apply w_call | apply w_bi | apply w_isi | apply w_mth | apply w_lc | apply o_no | apply o_so | apply ts_nil | apply ts_cons | apply i_val | apply i_rng1 | apply i_rng2 | apply i_enu | apply i_zip | apply o_addI | apply o_subI | apply b_lenT | apply b_lenR | apply b_abs | apply b_intI | apply b_tupT | apply b_listT | apply l_tup | apply l_rol | apply bo_bl) | ((with_reducible apply s_augA); rfl) | ((with_reducible apply s_augS); rfl) | ((with_reducible apply w_var); rfl) | ((with_reducible apply w_glb); rfl) | ((with_reducible apply w_calk); rfl) | ((fail_if_success (with_reducible show ∃ k, opC .NotIn _ _ _ = some k ∧ _)); (fail_if_success (with_reducible show ∃ k, opC .In _ _ _ = some k ∧ _)); refine ⟨_, rfl, ?_⟩)))
    refine o_addT (szw _) ?_
    (repeat (first | ((with_reducible show Wp (evSs _ _ (List.set _ _ _) _) _); simp only [List.set_cons_succ, List.set_cons_zero]) | with_reducible (first | apply s_cons | apply th_nx | apply th_rt | apply th_bk | apply th_ct | apply s_nil | apply s_set | apply s_par2 | apply s_seti | apply s_ife | apply s_ret | apply s_retN | apply s_exp | apply s_brk | apply s_cnt | apply s_pss | apply s_loop | apply rt_rt | apply rt_nx | apply wh_nx | apply wh_ct | apply wh_bk | apply wh_rt | apply w_int | apply w_non | apply w_bl | apply w_str | apply w_tup | apply w_lst | apply w_dct0 | apply es_nil | apply es_cons | apply w_bin | apply w_neg | apply w_cmp | apply w_chn | apply w_and | apply w_or | apply w_not | apply w_idx | apply w_slc | apply w_rev | apply w_call | apply w_bi | apply w_isi | apply w_mth | apply w_lc | apply o_no | apply o_so | apply ts_nil | apply ts_cons | apply i_val | apply i_rng1 | apply i_rng2 | apply i_enu | apply i_zip | apply o_addI | apply o_subI | apply b_lenT | apply b_lenR | apply b_abs | apply b_intI | apply b_tupT | apply b_listT | apply l_tup | apply l_rol | apply bo_bl) | ((with_reducible apply s_augA); rfl) | ((with_reducible apply s_augS); rfl) | ((with_reducible apply w_var); rfl) | ((with_reducible apply w_glb); rfl) | ((with_reducible apply w_calk); rfl) | ((fail_if_success (with_reducible show ∃ k, opC .NotIn _ _ _ = some k ∧ _)); (fail_if_success (with_reducible show ∃ k, opC .In _ _ _ = some k ∧ _)); refine ⟨_, rfl, ?_⟩)))
    have B9 := push (C.dK [(.inl 0, .int 1)]) (push (C.lst [D.tup [.int 0, .int 1]]) (push (C.lst [D.tup (bs.map D.int)]) B8))
    have d1 : s8[S.length]? = some (C.lst (bs.map D.int)) := K8.get push_at (by simp; omega)
    have l8 : S.length + 1 ≤ s8.length := by have := K8.1; simp at this; omega
    generalize hS9 : s8 ++ [C.lst [D.tup (bs.map D.int)]] ++ [C.lst [D.tup [.int 0, .int 1]]] ++ [C.dK [(.inl 0, .int 1)]] = S9 at *
    have l9 : S9.length = s8.length + 3 := by rw [← hS9]; simp
    have o9 : ∀ {n : Nat} {c : C}, s8[n]? = some c → S9[n]? = some c := fun e => by rw [← hS9]; exact push_old (push_old (push_old e))
    have d2 : S9[s8.length]? = some (C.lst [D.tup (bs.map D.int)]) := by rw [← hS9]; exact push_old (push_old push_at)
    have d3 : S9[(s8 ++ [C.lst [D.tup (bs.map D.int)]] ++ [C.lst [D.tup [.int 0, .int 1]]]).length]? = some (C.dK [(.inl 0, .int 1)]) := by rw [← hS9]; exact push_at
    have l3 : (s8 ++ [C.lst [D.tup (bs.map D.int)]] ++ [C.lst [D.tup [.int 0, .int 1]]]).length = s8.length + 2 := by simp
    rw [l3] at d3 ⊢
    generalize hv : S9.length = v at *
    generalize hA : (fun n : Nat => n ≠ q ∧ n ≠ b ∧ n ≠ v) = A at *
    have toA : ∀ n, n ≠ q → n ≠ b → n ≠ v → A n := fun n h1 h2 h3 => by rw [← hA]; exact ⟨h1, h2, h3⟩
    have ofA : ∀ n, A n → n ≠ q ∧ n ≠ b ∧ n ≠ v := fun n h => by rw [← hA] at h; exact h
    have G0 : ∀ c : C, ∀ d ∈ [D.tup (bs.map D.int), D.loc S.length, D.tup (bs.map D.int ++ [D.int 2]), D.non, od, D.loc s8.length, D.tup [D.tup (bs.map D.int)], D.str (Str.ofString "01"), D.loc (s8.length + 2), D.tup (bs.map D.int ++ [D.bl true])], GV A (S9 ++ [c]) d := by
      intro c d hd
      simp only [List.mem_cons, List.not_mem_nil, or_false] at hd
      rcases hd with rfl | rfl | rfl | rfl | rfl | rfl | rfl | rfl | rfl | rfl
      · exact gv_tup eb (by omega)
      · exact gv_lst (toA _ (by omega) (by omega) (by omega)) (push_old (o9 d1)) eb (by omega)
      · exact gv_tup (el_snoc eb (el_int (by decide))) (by simp; omega)
      · exact gv_el va_non
      · exact gv.keep fun n c h e => ⟨toA _ (by simp at h; omega) (by simp at h; omega) (by simp at h; omega), push_old (o9 e)⟩
      · exact .inl ((va_loc (toA _ (by omega) (by omega) (by omega)) (push_old d2) (vas_cons (va_tup (vas_el eb (by omega))) (vas_nil (n := 0)))).mono (by decide) (by decide))
      · exact .inl ((va_tup (vas_cons (va_tup (vas_el eb (by omega))) (vas_nil (n := 0)))).mono (by decide) (by decide))
      · exact .inl (va_str (by decide +kernel) (by decide))
      · exact .inr ⟨_, rfl, toA _ (by omega) (by omega) (by omega), .inr (push_old d3)⟩
      · exact gv_tup (el_snoc eb va_bl) (by simp; omega)
    refine wp_mono (cntE rfl) ?_
    rintro d s10 ⟨rfl, c, rfl, c5, cne⟩
    (repeat (first | ((with_reducible show Wp (evSs _ _ (List.set _ _ _) _) _); simp only [List.set_cons_succ, List.set_cons_zero]) | with_reducible (first | apply s_cons | apply th_nx | apply th_rt | apply th_bk | apply th_ct | apply s_nil | apply s_set | apply s_par2 | apply s_seti | apply s_ife | apply s_ret | apply s_retN | apply s_exp | apply s_brk | apply s_cnt | apply s_pss | apply s_loop | apply rt_rt | apply rt_nx | apply wh_nx | apply wh_ct | apply wh_bk | apply wh_rt | apply w_int | apply w_non | apply w_bl | apply w_str | apply w_tup | apply w_lst | apply w_dct0 | apply es_nil | apply es_cons | apply w_bin | apply w_neg | apply w_cmp | apply w_chn | apply w_and | apply w_or | apply w_not | apply w_ife | apply w_idx | apply w_slc | apply w_rev | apply w_call | apply w_bi | apply w_isi | apply w_mth | apply w_lc | apply o_no | apply o_so | apply ts_nil | apply ts_cons | apply i_val | apply i_rng1 | apply i_rng2 | apply i_enu | apply i_zip | apply o_addI | apply o_subI | apply b_lenT | apply b_lenR | apply b_abs | apply b_intI | apply b_tupT | apply b_listT | apply l_tup | apply l_rol | apply bo_bl) | ((with_reducible apply s_augA); rfl) | ((with_reducible apply s_augS); rfl) | ((with_reducible apply w_var); rfl) | ((with_reducible apply w_glb); rfl) | ((with_reducible apply w_calk); rfl) | ((fail_if_success (with_reducible show ∃ k, opC .NotIn _ _ _ = some k ∧ _)); (fail_if_success (with_reducible show ∃ k, opC .In _ _ _ = some k ∧ _)); refine ⟨_, rfl, ?_⟩)))
    refine ⟨by omega, ?_⟩
    refine fo_inv (fun ys e s2 => ∃ (x3 x4 x9 x10 x11 x12 x13 x14 x15 x16 x17 : Option D) (vals : List D), e = [some (.rol (ns.map D.int)), some (.loc b), some x, x3, x4, some (.tup (bs.map D.int)), some (lastD bs), some (.int bs.sum), some (.loc v), x9, x10, x11, x12, x13, x14, x15, x16, x17] ∧ s2[v]? = some (.lst vals) ∧ (∀ d ∈ vals, GV A s2 d) ∧ vals.length + 3 * ys.length ≤ 25 ∧ Bag q b s2 ∧ (0 < ys.length → bs ≠ [])) ?_ ?_ ⟨_, _, _, _, _, _, _, _, _, _, _, _, rfl, by rw [← hv]; exact push_at, G0 _, ?_, push _ B9, ?_⟩
    · rintro y ys e s2 ⟨x3, x4, x9, x10, x11, x12, x13, x14, x15, x16, x17, vals, rfl, hvv, hG, hlen, B', hne⟩
      have ne0 : bs ≠ [] := hne (by simp)
      have pos : 0 < bs.length := List.length_pos_iff.mpr ne0
      have lv : v < s2.length := (List.getElem?_eq_some_iff.mp hvv).1
      refine ⟨fo_none, _, rfl, ?_⟩
      (repeat (first | ((with_reducible show Wp (evSs _ _ (List.set _ _ _) _) _); simp only [List.set_cons_succ, List.set_cons_zero]) | with_reducible (first | apply s_cons | apply th_nx | apply th_rt | apply th_bk | apply th_ct | apply s_nil | apply s_set | apply s_par2 | apply s_seti | apply s_ife | apply s_ret | apply s_retN | apply s_exp | apply s_brk | apply s_cnt | apply s_pss | apply s_loop | apply rt_rt | apply rt_nx | apply wh_nx | apply wh_ct | apply wh_bk | apply wh_rt | apply w_int | apply w_non | apply w_bl | apply w_str | apply w_tup | apply w_lst | apply w_dct0 | apply es_nil | apply es_cons | apply w_bin | apply w_neg | apply w_cmp | apply w_chn | apply w_and | apply w_or | apply w_not | apply w_ife | apply w_idx | apply w_slc | apply w_rev | apply w_call | apply w_bi | apply w_isi | apply w_mth | apply w_lc | apply o_no | apply o_so | apply ts_nil | apply ts_cons | apply i_val | apply i_rng1 | apply i_rng2 | apply i_enu | apply i_zip | apply o_addI | apply o_subI | apply b_lenT | apply b_lenR | apply b_abs | apply b_intI | apply b_tupT | apply b_listT | apply l_tup | apply l_rol | apply bo_bl) | ((with_reducible apply s_augA); rfl) | ((with_reducible apply s_augS); rfl) | ((with_reducible apply w_var); rfl) | ((with_reducible apply w_glb); rfl) | ((with_reducible apply w_calk); rfl) | ((fail_if_success (with_reducible show ∃ k, opC .NotIn _ _ _ = some k ∧ _)); (fail_if_success (with_reducible show ∃ k, opC .In _ _ _ = some k ∧ _)); refine ⟨_, rfl, ?_⟩)))
      refine wp_mono (draw_ok f8 rfl B' (by rw [wl]; omega) (by rw [wl]; have := log2_of (i := (bs.length : Int)) (k := 100) (by omega) (by decide); omega)) ?_
      rintro d t1 ⟨i1, rfl, i10, i11, B1', k1⟩
      (repeat (first | ((with_reducible show Wp (evSs _ _ (List.set _ _ _) _) _); simp only [List.set_cons_succ, List.set_cons_zero]) | with_reducible (first | apply s_cons | apply th_nx | apply th_rt | apply th_bk | apply th_ct | apply s_nil | apply s_set | apply s_par2 | apply s_seti | apply s_ife | apply s_ret | apply s_retN | apply s_exp | apply s_brk | apply s_cnt | apply s_pss | apply s_loop | apply rt_rt | apply rt_nx | apply wh_nx | apply wh_ct | apply wh_bk | apply wh_rt | apply w_int | apply w_non | apply w_bl | apply w_str | apply w_tup | apply w_lst | apply w_dct0 | apply es_nil | apply es_cons | apply w_bin | apply w_neg | apply w_cmp | apply w_chn | apply w_and | apply w_or | apply w_not | apply w_ife | apply w_idx | apply w_slc | apply w_rev | apply w_call | apply w_bi | apply w_isi | apply w_mth | apply w_lc | apply o_no | apply o_so | apply ts_nil | apply ts_cons | apply i_val | apply i_rng1 | apply i_rng2 | apply i_enu | apply i_zip | apply o_addI | apply o_subI | apply b_lenT | apply b_lenR | apply b_abs | apply b_intI | apply b_tupT | apply b_listT | apply l_tup | apply l_rol | apply bo_bl) | ((with_reducible apply s_augA); rfl) | ((with_reducible apply s_augS); rfl) | ((with_reducible apply w_var); rfl) | ((with_reducible apply w_glb); rfl) | ((with_reducible apply w_calk); rfl) | ((fail_if_success (with_reducible show ∃ k, opC .NotIn _ _ _ = some k ∧ _)); (fail_if_success (with_reducible show ∃ k, opC .In _ _ _ = some k ∧ _)); refine ⟨_, rfl, ?_⟩)))
      refine wp_mono (draw_ok f8 rfl B1' (by rw [wl]; omega) (by rw [wl]; have := log2_of (i := (bs.length : Int)) (k := 100) (by omega) (by decide); omega)) ?_
      rintro d t2 ⟨i2, rfl, i20, i21, B2', k2⟩
      (repeat (first | ((with_reducible show Wp (evSs _ _ (List.set _ _ _) _) _); simp only [List.set_cons_succ, List.set_cons_zero]) | with_reducible (first | apply s_cons | apply th_nx | apply th_rt | apply th_bk | apply th_ct | apply s_nil | apply s_set | apply s_par2 | apply s_seti | apply s_ife | apply s_ret | apply s_retN | apply s_exp | apply s_brk | apply s_cnt | apply s_pss | apply s_loop | apply rt_rt | apply rt_nx | apply wh_nx | apply wh_ct | apply wh_bk | apply wh_rt | apply w_int | apply w_non | apply w_bl | apply w_str | apply w_tup | apply w_lst | apply w_dct0 | apply es_nil | apply es_cons | apply w_bin | apply w_neg | apply w_cmp | apply w_chn | apply w_and | apply w_or | apply w_not | apply w_ife | apply w_idx | apply w_slc | apply w_rev | apply w_call | apply w_bi | apply w_isi | apply w_mth | apply w_lc | apply o_no | apply o_so | apply ts_nil | apply ts_cons | apply i_val | apply i_rng1 | apply i_rng2 | apply i_enu | apply i_zip | apply o_addI | apply o_subI | apply b_lenT | apply b_lenR | apply b_abs | apply b_intI | apply b_tupT | apply b_listT | apply l_tup | apply l_rol | apply bo_bl) | ((with_reducible apply s_augA); rfl) | ((with_reducible apply s_augS); rfl) | ((with_reducible apply w_var); rfl) | ((with_reducible apply w_glb); rfl) | ((with_reducible apply w_calk); rfl) | ((fail_if_success (with_reducible show ∃ k, opC .NotIn _ _ _ = some k ∧ _)); (fail_if_success (with_reducible show ∃ k, opC .In _ _ _ = some k ∧ _)); refine ⟨_, rfl, ?_⟩)))
      refine ⟨by simp, ?_⟩
      (repeat (first | ((with_reducible show Wp (evSs _ _ (List.set _ _ _) _) _); simp only [List.set_cons_succ, List.set_cons_zero]) | with_reducible (first | apply s_cons | apply th_nx | apply th_rt | apply th_bk | apply th_ct | apply s_nil | apply s_set | apply s_par2 | apply s_seti | apply s_ife | apply s_ret | apply s_retN | apply s_exp | apply s_brk | apply s_cnt | apply s_pss | apply s_loop | apply rt_rt | apply rt_nx | apply wh_nx | apply wh_ct | apply wh_bk | apply wh_rt | apply w_int | apply w_non | apply w_bl | apply w_str | apply w_tup | apply w_lst | apply w_dct0 | apply es_nil | apply es_cons | apply w_bin | apply w_neg | apply w_cmp | apply w_chn | apply w_and | apply w_or | apply w_not | apply w_ife | apply w_idx | apply w_slc | apply w_rev | apply w_call | apply w_bi | apply w_isi | apply w_mth | apply w_lc | apply o_no | apply o_so | apply ts_nil | apply ts_cons | apply i_val | apply i_rng1 | apply i_rng2 | apply i_enu | apply i_zip | apply o_addI | apply o_subI | apply b_lenT | apply b_lenR | apply b_abs | apply b_intI | apply b_tupT | apply b_listT | apply l_tup | apply l_rol | apply bo_bl) | ((with_reducible apply s_augA); rfl) | ((with_reducible apply s_augS); rfl) | ((with_reducible apply w_var); rfl) | ((with_reducible apply w_glb); rfl) | ((with_reducible apply w_calk); rfl) | ((fail_if_success (with_reducible show ∃ k, opC .NotIn _ _ _ = some k ∧ _)); (fail_if_success (with_reducible show ∃ k, opC .In _ _ _ = some k ∧ _)); refine ⟨_, rfl, ?_⟩)))
      refine o_pow (by decide) ?_
      (repeat (first | ((with_reducible show Wp (evSs _ _ (List.set _ _ _) _) _); simp only [List.set_cons_succ, List.set_cons_zero]) | with_reducible (first | apply s_cons | apply th_nx | apply th_rt | apply th_bk | apply th_ct | apply s_nil | apply s_set | apply s_par2 | apply s_seti | apply s_ife | apply s_ret | apply s_retN | apply s_exp | apply s_brk | apply s_cnt | apply s_pss | apply s_loop | apply rt_rt | apply rt_nx | apply wh_nx | apply wh_ct | apply wh_bk | apply wh_rt | apply w_int | apply w_non | apply w_bl | apply w_str | apply w_tup | apply w_lst | apply w_dct0 | apply es_nil | apply es_cons | apply w_bin | apply w_neg | apply w_cmp | apply w_chn | apply w_and | apply w_or | apply w_not | apply w_ife | apply w_idx | apply w_slc | apply w_rev | apply w_call | apply w_bi | apply w_isi | apply w_mth | apply w_lc | apply o_no | apply o_so | apply ts_nil | apply ts_cons | apply i_val | apply i_rng1 | apply i_rng2 | apply i_enu | apply i_zip | apply o_addI | apply o_subI | apply b_lenT | apply b_lenR | apply b_abs | apply b_intI | apply b_tupT | apply b_listT | apply l_tup | apply l_rol | apply bo_bl) | ((with_reducible apply s_augA); rfl) | ((with_reducible apply s_augS); rfl) | ((with_reducible apply w_var); rfl) | ((with_reducible apply w_glb); rfl) | ((with_reducible apply w_calk); rfl) | ((fail_if_success (with_reducible show ∃ k, opC .NotIn _ _ _ = some k ∧ _)); (fail_if_success (with_reducible show ∃ k, opC .In _ _ _ = some k ∧ _)); refine ⟨_, rfl, ?_⟩)))
      obtain ⟨wd, hwd, ewd⟩ := atI_in i10 i11
      obtain ⟨cb, hcb, rfl⟩ := List.mem_map.mp hwd
      refine i_tup ewd ?_
      (repeat (first | ((with_reducible show Wp (evSs _ _ (List.set _ _ _) _) _); simp only [List.set_cons_succ, List.set_cons_zero]) | with_reducible (first | apply s_cons | apply th_nx | apply th_rt | apply th_bk | apply th_ct | apply s_nil | apply s_set | apply s_par2 | apply s_seti | apply s_ife | apply s_ret | apply s_retN | apply s_exp | apply s_brk | apply s_cnt | apply s_pss | apply s_loop | apply rt_rt | apply rt_nx | apply wh_nx | apply wh_ct | apply wh_bk | apply wh_rt | apply w_int | apply w_non | apply w_bl | apply w_str | apply w_tup | apply w_lst | apply w_dct0 | apply es_nil | apply es_cons | apply w_bin | apply w_neg | apply w_cmp | apply w_chn | apply w_and | apply w_or | apply w_not | apply w_ife | apply w_idx | apply w_slc | apply w_rev | apply w_call | apply w_bi | apply w_isi | apply w_mth | apply w_lc | apply o_no | apply o_so | apply ts_nil | apply ts_cons | apply i_val | apply i_rng1 | apply i_rng2 | apply i_enu | apply i_zip | apply o_addI | apply o_subI | apply b_lenT | apply b_lenR | apply b_abs | apply b_intI | apply b_tupT | apply b_listT | apply l_tup | apply l_rol | apply bo_bl) | ((with_reducible apply s_augA); rfl) | ((with_reducible apply s_augS); rfl) | ((with_reducible apply w_var); rfl) | ((with_reducible apply w_glb); rfl) | ((with_reducible apply w_calk); rfl) | ((fail_if_success (with_reducible show ∃ k, opC .NotIn _ _ _ = some k ∧ _)); (fail_if_success (with_reducible show ∃ k, opC .In _ _ _ = some k ∧ _)); refine ⟨_, rfl, ?_⟩)))
      have lq2 := B2'.lt
      have lt2 := (k1.trans k2).1
      have vq : v ≠ q := by have := B9.lt; omega
      have vb : v ≠ b := by have := B9.lt; omega
      have elS : ∀ d ∈ [D.int 2, D.int (-1), D.bl true, D.bl false, D.non, D.str (Str.ofString "1"), D.tup [D.int 1], D.int (10 ^ Int.toNat 40), D.int (1 - cb)], El d := by
        intro d hd
        simp only [List.mem_cons, List.not_mem_nil, or_false] at hd
        rcases hd with rfl | rfl | rfl | rfl | rfl | rfl | rfl | rfl | rfl
        · exact el_int (by decide)
        · exact el_int (by decide)
        · exact va_bl
        · exact va_bl
        · exact va_non
        · exact va_str (by decide +kernel) (by decide)
        · exact (va_tup (k := 0) (vas_cons (n := 0) (pu_int (by decide)) (vas_nil (n := 0)))).mono (by decide) (by decide)
        · exact el_int (by decide)
        · exact el_int (by rcases hb cb hcb with rfl | rfl <;> decide)
      refine wp_mono (pick_ok f9 f8 rfl (push _ B2') push_at (by omega) (by omega) (by simp) (by simp)) ?_
      rintro pd t3 ⟨hpd, B3', k3⟩
      (repeat (first | ((with_reducible show Wp (evSs _ _ (List.set _ _ _) _) _); simp only [List.set_cons_succ, List.set_cons_zero]) | with_reducible (first | apply s_cons | apply th_nx | apply th_rt | apply th_bk | apply th_ct | apply s_nil | apply s_set | apply s_par2 | apply s_seti | apply s_ife | apply s_ret | apply s_retN | apply s_exp | apply s_brk | apply s_cnt | apply s_pss | apply s_loop | apply rt_rt | apply rt_nx | apply wh_nx | apply wh_ct | apply wh_bk | apply wh_rt | apply w_int | apply w_non | apply w_bl | apply w_str | apply w_tup | apply w_lst | apply w_dct0 | apply es_nil | apply es_cons | apply w_bin | apply w_neg | apply w_cmp | apply w_chn | apply w_and | apply w_or | apply w_not | apply w_ife | apply w_idx | apply w_slc | apply w_rev | apply w_call | apply w_bi | apply w_isi | apply w_mth | apply w_lc | apply o_no | apply o_so | apply ts_nil | apply ts_cons | apply i_val | apply i_rng1 | apply i_rng2 | apply i_enu | apply i_zip | apply o_addI | apply o_subI | apply b_lenT | apply b_lenR | apply b_abs | apply b_intI | apply b_tupT | apply b_listT | apply l_tup | apply l_rol | apply bo_bl) | ((with_reducible apply s_augA); rfl) | ((with_reducible apply s_augS); rfl) | ((with_reducible apply w_var); rfl) | ((with_reducible apply w_glb); rfl) | ((with_reducible apply w_calk); rfl) | ((fail_if_success (with_reducible show ∃ k, opC .NotIn _ _ _ = some k ∧ _)); (fail_if_success (with_reducible show ∃ k, opC .In _ _ _ = some k ∧ _)); refine ⟨_, rfl, ?_⟩)))
      refine wp_mono (with_ok i10 (by omega)) ?_
      rintro d t4 ⟨rfl, bt, rfl, hbt, lbt⟩
      have eB : ∀ y ∈ bt, El y := fun y hy => by
        rcases hbt y hy with z | rfl
        · exact eb y z
        · exact elS _ hpd
      (repeat (first | ((with_reducible show Wp (evSs _ _ (List.set _ _ _) _) _); simp only [List.set_cons_succ, List.set_cons_zero]) | with_reducible (first | apply s_cons | apply th_nx | apply th_rt | apply th_bk | apply th_ct | apply s_nil | apply s_set | apply s_par2 | apply s_seti | apply s_ife | apply s_ret | apply s_retN | apply s_exp | apply s_brk | apply s_cnt | apply s_pss | apply s_loop | apply rt_rt | apply rt_nx | apply wh_nx | apply wh_ct | apply wh_bk | apply wh_rt | apply w_int | apply w_non | apply w_bl | apply w_str | apply w_tup | apply w_lst | apply w_dct0 | apply es_nil | apply es_cons | apply w_bin | apply w_neg | apply w_cmp | apply w_chn | apply w_and | apply w_or | apply w_not | apply w_ife | apply w_idx | apply w_slc | apply w_rev | apply w_call | apply w_bi | apply w_isi | apply w_mth | apply w_lc | apply o_no | apply o_so | apply ts_nil | apply ts_cons | apply i_val | apply i_rng1 | apply i_rng2 | apply i_enu | apply i_zip | apply o_addI | apply o_subI | apply b_lenT | apply b_lenR | apply b_abs | apply b_intI | apply b_tupT | apply b_listT | apply l_tup | apply l_rol | apply bo_bl) | ((with_reducible apply s_augA); rfl) | ((with_reducible apply s_augS); rfl) | ((with_reducible apply w_var); rfl) | ((with_reducible apply w_glb); rfl) | ((with_reducible apply w_calk); rfl) | ((fail_if_success (with_reducible show ∃ k, opC .NotIn _ _ _ = some k ∧ _)); (fail_if_success (with_reducible show ∃ k, opC .In _ _ _ = some k ∧ _)); refine ⟨_, rfl, ?_⟩)))
      have k13 : Kx [q, b] s2 t4 := (k1.trans k2).trans ((Kx.refl.push _).trans k3)
      have hv4 : t4[v]? = some (.lst vals) := k13.get hvv (by simp [vq, vb])
      refine ⟨rcv_loc (by decide) hv4, ?_⟩
      (repeat (first | ((with_reducible show Wp (evSs _ _ (List.set _ _ _) _) _); simp only [List.set_cons_succ, List.set_cons_zero]) | with_reducible (first | apply s_cons | apply th_nx | apply th_rt | apply th_bk | apply th_ct | apply s_nil | apply s_set | apply s_par2 | apply s_seti | apply s_ife | apply s_ret | apply s_retN | apply s_exp | apply s_brk | apply s_cnt | apply s_pss | apply s_loop | apply rt_rt | apply rt_nx | apply wh_nx | apply wh_ct | apply wh_bk | apply wh_rt | apply w_int | apply w_non | apply w_bl | apply w_str | apply w_tup | apply w_lst | apply w_dct0 | apply es_nil | apply es_cons | apply w_bin | apply w_neg | apply w_cmp | apply w_chn | apply w_and | apply w_or | apply w_not | apply w_ife | apply w_idx | apply w_slc | apply w_rev | apply w_call | apply w_bi | apply w_isi | apply w_mth | apply w_lc | apply o_no | apply o_so | apply ts_nil | apply ts_cons | apply i_val | apply i_rng1 | apply i_rng2 | apply i_enu | apply i_zip | apply o_addI | apply o_subI | apply b_lenT | apply b_lenR | apply b_abs | apply b_intI | apply b_tupT | apply b_listT | apply l_tup | apply l_rol | apply bo_bl) | ((with_reducible apply s_augA); rfl) | ((with_reducible apply s_augS); rfl) | ((with_reducible apply w_var); rfl) | ((with_reducible apply w_glb); rfl) | ((with_reducible apply w_calk); rfl) | ((fail_if_success (with_reducible show ∃ k, opC .NotIn _ _ _ = some k ∧ _)); (fail_if_success (with_reducible show ∃ k, opC .In _ _ _ = some k ∧ _)); refine ⟨_, rfl, ?_⟩)))
      have hs4 := k3.get push_at (by simp; omega)
      refine wp_mono (pick_ok f9 f8 rfl B3' hs4 (by omega) (by omega) (by simp) (by simp)) ?_
      rintro pd2 t5 ⟨hpd2, B5', k5⟩
      (repeat (first | ((with_reducible show Wp (evSs _ _ (List.set _ _ _) _) _); simp only [List.set_cons_succ, List.set_cons_zero]) | with_reducible (first | apply s_cons | apply th_nx | apply th_rt | apply th_bk | apply th_ct | apply s_nil | apply s_set | apply s_par2 | apply s_seti | apply s_ife | apply s_ret | apply s_retN | apply s_exp | apply s_brk | apply s_cnt | apply s_pss | apply s_loop | apply rt_rt | apply rt_nx | apply wh_nx | apply wh_ct | apply wh_bk | apply wh_rt | apply w_int | apply w_non | apply w_bl | apply w_str | apply w_tup | apply w_lst | apply w_dct0 | apply es_nil | apply es_cons | apply w_bin | apply w_neg | apply w_cmp | apply w_chn | apply w_and | apply w_or | apply w_not | apply w_ife | apply w_idx | apply w_slc | apply w_rev | apply w_call | apply w_bi | apply w_isi | apply w_mth | apply w_lc | apply o_no | apply o_so | apply ts_nil | apply ts_cons | apply i_val | apply i_rng1 | apply i_rng2 | apply i_enu | apply i_zip | apply o_addI | apply o_subI | apply b_lenT | apply b_lenR | apply b_abs | apply b_intI | apply b_tupT | apply b_listT | apply l_tup | apply l_rol | apply bo_bl) | ((with_reducible apply s_augA); rfl) | ((with_reducible apply s_augS); rfl) | ((with_reducible apply w_var); rfl) | ((with_reducible apply w_glb); rfl) | ((with_reducible apply w_calk); rfl) | ((fail_if_success (with_reducible show ∃ k, opC .NotIn _ _ _ = some k ∧ _)); (fail_if_success (with_reducible show ∃ k, opC .In _ _ _ = some k ∧ _)); refine ⟨_, rfl, ?_⟩)))
      refine wp_mono (with_ok i20 (by omega)) ?_
      rintro d t6 ⟨rfl, bt2, rfl, hbt2, lbt2⟩
      have eB2 : ∀ y ∈ bt2, El y := fun y hy => by
        rcases hbt2 y hy with z | rfl
        · exact eB y z
        · exact elS _ hpd2
      (repeat (first | ((with_reducible show Wp (evSs _ _ (List.set _ _ _) _) _); simp only [List.set_cons_succ, List.set_cons_zero]) | with_reducible (first | apply s_cons | apply th_nx | apply th_rt | apply th_bk | apply th_ct | apply s_nil | apply s_set | apply s_par2 | apply s_seti | apply s_ife | apply s_ret | apply s_retN | apply s_exp | apply s_brk | apply s_cnt | apply s_pss | apply s_loop | apply rt_rt | apply rt_nx | apply wh_nx | apply wh_ct | apply wh_bk | apply wh_rt | apply w_int | apply w_non | apply w_bl | apply w_str | apply w_tup | apply w_lst | apply w_dct0 | apply es_nil | apply es_cons | apply w_bin | apply w_neg | apply w_cmp | apply w_chn | apply w_and | apply w_or | apply w_not | apply w_ife | apply w_idx | apply w_slc | apply w_rev | apply w_call | apply w_bi | apply w_isi | apply w_mth | apply w_lc | apply o_no | apply o_so | apply ts_nil | apply ts_cons | apply i_val | apply i_rng1 | apply i_rng2 | apply i_enu | apply i_zip | apply o_addI | apply o_subI | apply b_lenT | apply b_lenR | apply b_abs | apply b_intI | apply b_tupT | apply b_listT | apply l_tup | apply l_rol | apply bo_bl) | ((with_reducible apply s_augA); rfl) | ((with_reducible apply s_augS); rfl) | ((with_reducible apply w_var); rfl) | ((with_reducible apply w_glb); rfl) | ((with_reducible apply w_calk); rfl) | ((fail_if_success (with_reducible show ∃ k, opC .NotIn _ _ _ = some k ∧ _)); (fail_if_success (with_reducible show ∃ k, opC .In _ _ _ = some k ∧ _)); refine ⟨_, rfl, ?_⟩)))
      have k15 : Kx [q, b] s2 t6 := k13.trans k5
      have hv6 : t6[v]? = some (.lst vals) := k5.get hv4 (by simp [vq, vb])
      refine m_extend (push_old (push_old hv6)) push_at (by rw [sizeLine_eq]; simp only [List.length_cons, List.length_nil] at hlen ⊢; omega) ?_
      (repeat (first | ((with_reducible show Wp (evSs _ _ (List.set _ _ _) _) _); simp only [List.set_cons_succ, List.set_cons_zero]) | with_reducible (first | apply s_cons | apply th_nx | apply th_rt | apply th_bk | apply th_ct | apply s_nil | apply s_set | apply s_par2 | apply s_seti | apply s_ife | apply s_ret | apply s_retN | apply s_exp | apply s_brk | apply s_cnt | apply s_pss | apply s_loop | apply rt_rt | apply rt_nx | apply wh_nx | apply wh_ct | apply wh_bk | apply wh_rt | apply w_int | apply w_non | apply w_bl | apply w_str | apply w_tup | apply w_lst | apply w_dct0 | apply es_nil | apply es_cons | apply w_bin | apply w_neg | apply w_cmp | apply w_chn | apply w_and | apply w_or | apply w_not | apply w_ife | apply w_idx | apply w_slc | apply w_rev | apply w_call | apply w_bi | apply w_isi | apply w_mth | apply w_lc | apply o_no | apply o_so | apply ts_nil | apply ts_cons | apply i_val | apply i_rng1 | apply i_rng2 | apply i_enu | apply i_zip | apply o_addI | apply o_subI | apply b_lenT | apply b_lenR | apply b_abs | apply b_intI | apply b_tupT | apply b_listT | apply l_tup | apply l_rol | apply bo_bl) | ((with_reducible apply s_augA); rfl) | ((with_reducible apply s_augS); rfl) | ((with_reducible apply w_var); rfl) | ((with_reducible apply w_glb); rfl) | ((with_reducible apply w_calk); rfl) | ((fail_if_success (with_reducible show ∃ k, opC .NotIn _ _ _ = some k ∧ _)); (fail_if_success (with_reducible show ∃ k, opC .In _ _ _ = some k ∧ _)); refine ⟨_, rfl, ?_⟩)))
      have l6 : s2.length ≤ t6.length := k15.1
      have kk : Kx [q, b] s2 (t6 ++ [C.lst bt] ++ [C.lst [.tup bt, .tup bt2, .loc t6.length]]) := (k15.push _).push _
      have kA : ∀ n c, A n → s2[n]? = some c → A n ∧ ((t6 ++ [C.lst bt] ++ [C.lst [.tup bt, .tup bt2, .loc t6.length]]).set v (.lst (vals ++ [.tup bt, .tup bt2, .loc t6.length])))[n]? = some c := fun n c h e => ⟨h, set_old (kk.get e (by have := ofA n h; simp; omega)) (by have := ofA n h; omega)⟩
      refine ⟨x3, x4, _, _, _, _, _, _, _, _, _, vals ++ [.tup bt, .tup bt2, .loc t6.length], rfl, set_at (push_old (push_old hv6)), ?_, ?_, ?_, fun _ => ne0⟩
      · intro d hd
        rcases List.mem_append.mp hd with hd | hd
        · exact (hG d hd).keep kA
        · simp only [List.mem_cons, List.not_mem_nil, or_false] at hd
          rcases hd with rfl | rfl | rfl
          · exact gv_tup eB (by omega)
          · exact gv_tup eB2 (by omega)
          · exact gv_lst (toA _ (by omega) (by omega) (by omega)) (set_old (push_old push_at) (by omega)) eB (by omega)
      · simp only [List.length_append, List.length_cons, List.length_nil] at hlen ⊢
        omega
      · exact (push _ (push _ B5')).keep (set_ne (by omega)) (set_ne (by omega))
    · rintro e s2 ⟨x3, x4, x9, x10, x11, x12, x13, x14, x15, x16, x17, vals, rfl, hvv, hG, hlen, B', hne⟩
      refine ⟨fo_none, ?_⟩
      have fl : (List.replicate ((300 : Int) - ((bs.map D.int).length : Int)).toNat [D.int 0]).flatten = List.replicate (300 - bs.length) (D.int 0) := by
        rw [wl]
        have : ((300 : Int) - (bs.length : Int)).toNat = 300 - bs.length := by omega
        rw [this, List.flatten_replicate_singleton]
      have z0 : ∀ y ∈ List.replicate (300 - bs.length) (D.int 0), El y := fun y hy => by
        rw [List.eq_of_mem_replicate hy]
        exact el_int (by decide)
      generalize hL : bs.map D.int ++ List.replicate (300 - bs.length) (D.int 0) = lg
      have eL : ∀ y ∈ lg, El y := fun y hy => by
        rw [← hL] at hy
        rcases List.mem_append.mp hy with z | z
        · exact eb y z
        · exact z0 y z
      have lL : lg.length = 300 := by
        rw [← hL, List.length_append, wl, List.length_replicate]
        omega
      have vq : v ≠ q := by have := B9.lt; omega
      have vb : v ≠ b := by have := B9.lt; omega
      have szl : ∀ d : D, lg.length + [d].length ≤ sizeLine := fun d => by rw [sizeLine_eq, lL]; simp only [List.length_cons, List.length_nil]; omega
      (repeat (first | ((with_reducible show Wp (evSs _ _ (List.set _ _ _) _) _); simp only [List.set_cons_succ, List.set_cons_zero]) | with_reducible (first | apply s_cons | apply th_nx | apply th_rt | apply th_bk | apply th_ct | apply s_nil | apply s_set | apply s_par2 | apply s_seti | apply s_ife | apply s_ret | apply s_retN | apply s_exp | apply s_brk | apply s_cnt | apply s_pss | apply s_loop | apply rt_rt | apply rt_nx | apply wh_nx | apply wh_ct | apply wh_bk | apply wh_rt | apply w_int | apply w_non | apply w_bl | apply w_str | apply w_tup | apply w_lst | apply w_dct0 | apply es_nil | apply es_cons | apply w_bin | apply w_neg | apply w_cmp | apply w_chn | apply w_and | apply w_or | apply w_not | apply w_ife | apply w_idx | apply w_slc | apply w_rev | apply w_call | apply w_bi | apply w_isi | apply w_mth | apply w_lc | apply o_no | apply o_so | apply ts_nil | apply ts_cons | apply i_val | apply i_rng1 | apply i_rng2 | apply i_enu | apply i_zip | apply o_addI | apply o_subI | apply b_lenT | apply b_lenR | apply b_abs | apply b_intI | apply b_tupT | apply b_listT | apply l_tup | apply l_rol | apply bo_bl) | ((with_reducible apply s_augA); rfl) | ((with_reducible apply s_augS); rfl) | ((with_reducible apply w_var); rfl) | ((with_reducible apply w_glb); rfl) | ((with_reducible apply w_calk); rfl) | ((fail_if_success (with_reducible show ∃ k, opC .NotIn _ _ _ = some k ∧ _)); (fail_if_success (with_reducible show ∃ k, opC .In _ _ _ = some k ∧ _)); refine ⟨_, rfl, ?_⟩)))
      refine o_mulT (by rw [wl]; simp; omega) ?_
      rw [fl]
      refine o_addT (by rw [sizeLine_eq, wl, List.length_replicate]; omega) ?_
      rw [hL]
      (repeat (first | ((with_reducible show Wp (evSs _ _ (List.set _ _ _) _) _); simp only [List.set_cons_succ, List.set_cons_zero]) | with_reducible (first | apply s_cons | apply th_nx | apply th_rt | apply th_bk | apply th_ct | apply s_nil | apply s_set | apply s_par2 | apply s_seti | apply s_ife | apply s_ret | apply s_retN | apply s_exp | apply s_brk | apply s_cnt | apply s_pss | apply s_loop | apply rt_rt | apply rt_nx | apply wh_nx | apply wh_ct | apply wh_bk | apply wh_rt | apply w_int | apply w_non | apply w_bl | apply w_str | apply w_tup | apply w_lst | apply w_dct0 | apply es_nil | apply es_cons | apply w_bin | apply w_neg | apply w_cmp | apply w_chn | apply w_and | apply w_or | apply w_not | apply w_ife | apply w_idx | apply w_slc | apply w_rev | apply w_call | apply w_bi | apply w_isi | apply w_mth | apply w_lc | apply o_no | apply o_so | apply ts_nil | apply ts_cons | apply i_val | apply i_rng1 | apply i_rng2 | apply i_enu | apply i_zip | apply o_addI | apply o_subI | apply b_lenT | apply b_lenR | apply b_abs | apply b_intI | apply b_tupT | apply b_listT | apply l_tup | apply l_rol | apply bo_bl) | ((with_reducible apply s_augA); rfl) | ((with_reducible apply s_augS); rfl) | ((with_reducible apply w_var); rfl) | ((with_reducible apply w_glb); rfl) | ((with_reducible apply w_calk); rfl) | ((fail_if_success (with_reducible show ∃ k, opC .NotIn _ _ _ = some k ∧ _)); (fail_if_success (with_reducible show ∃ k, opC .In _ _ _ = some k ∧ _)); refine ⟨_, rfl, ?_⟩)))
      refine ⟨rcv_loc (by decide) hvv, ?_⟩
      (repeat (first | ((with_reducible show Wp (evSs _ _ (List.set _ _ _) _) _); simp only [List.set_cons_succ, List.set_cons_zero]) | with_reducible (first | apply s_cons | apply th_nx | apply th_rt | apply th_bk | apply th_ct | apply s_nil | apply s_set | apply s_par2 | apply s_seti | apply s_ife | apply s_ret | apply s_retN | apply s_exp | apply s_brk | apply s_cnt | apply s_pss | apply s_loop | apply rt_rt | apply rt_nx | apply wh_nx | apply wh_ct | apply wh_bk | apply wh_rt | apply w_int | apply w_non | apply w_bl | apply w_str | apply w_tup | apply w_lst | apply w_dct0 | apply es_nil | apply es_cons | apply w_bin | apply w_neg | apply w_cmp | apply w_chn | apply w_and | apply w_or | apply w_not | apply w_ife | apply w_idx | apply w_slc | apply w_rev | apply w_call | apply w_bi | apply w_isi | apply w_mth | apply w_lc | apply o_no | apply o_so | apply ts_nil | apply ts_cons | apply i_val | apply i_rng1 | apply i_rng2 | apply i_enu | apply i_zip | apply o_addI | apply o_subI | apply b_lenT | apply b_lenR | apply b_abs | apply b_intI | apply b_tupT | apply b_listT | apply l_tup | apply l_rol | apply bo_bl) | ((with_reducible apply s_augA); rfl) | ((with_reducible apply s_augS); rfl) | ((with_reducible apply w_var); rfl) | ((with_reducible apply w_glb); rfl) | ((with_reducible apply w_calk); rfl) | ((fail_if_success (with_reducible show ∃ k, opC .NotIn _ _ _ = some k ∧ _)); (fail_if_success (with_reducible show ∃ k, opC .In _ _ _ = some k ∧ _)); refine ⟨_, rfl, ?_⟩)))
      refine o_addT (szl _) ?_
      (repeat (first | ((with_reducible show Wp (evSs _ _ (List.set _ _ _) _) _); simp only [List.set_cons_succ, List.set_cons_zero]) | with_reducible (first | apply s_cons | apply th_nx | apply th_rt | apply th_bk | apply th_ct | apply s_nil | apply s_set | apply s_par2 | apply s_seti | apply s_ife | apply s_ret | apply s_retN | apply s_exp | apply s_brk | apply s_cnt | apply s_pss | apply s_loop | apply rt_rt | apply rt_nx | apply wh_nx | apply wh_ct | apply wh_bk | apply wh_rt | apply w_int | apply w_non | apply w_bl | apply w_str | apply w_tup | apply w_lst | apply w_dct0 | apply es_nil | apply es_cons | apply w_bin | apply w_neg | apply w_cmp | apply w_chn | apply w_and | apply w_or | apply w_not | apply w_ife | apply w_idx | apply w_slc | apply w_rev | apply w_call | apply w_bi | apply w_isi | apply w_mth | apply w_lc | apply o_no | apply o_so | apply ts_nil | apply ts_cons | apply i_val | apply i_rng1 | apply i_rng2 | apply i_enu | apply i_zip | apply o_addI | apply o_subI | apply b_lenT | apply b_lenR | apply b_abs | apply b_intI | apply b_tupT | apply b_listT | apply l_tup | apply l_rol | apply bo_bl) | ((with_reducible apply s_augA); rfl) | ((with_reducible apply s_augS); rfl) | ((with_reducible apply w_var); rfl) | ((with_reducible apply w_glb); rfl) | ((with_reducible apply w_calk); rfl) | ((fail_if_success (with_reducible show ∃ k, opC .NotIn _ _ _ = some k ∧ _)); (fail_if_success (with_reducible show ∃ k, opC .In _ _ _ = some k ∧ _)); refine ⟨_, rfl, ?_⟩)))
      refine o_addT (szl _) ?_
      (repeat (first | ((with_reducible show Wp (evSs _ _ (List.set _ _ _) _) _); simp only [List.set_cons_succ, List.set_cons_zero]) | with_reducible (first | apply s_cons | apply th_nx | apply th_rt | apply th_bk | apply th_ct | apply s_nil | apply s_set | apply s_par2 | apply s_seti | apply s_ife | apply s_ret | apply s_retN | apply s_exp | apply s_brk | apply s_cnt | apply s_pss | apply s_loop | apply rt_rt | apply rt_nx | apply wh_nx | apply wh_ct | apply wh_bk | apply wh_rt | apply w_int | apply w_non | apply w_bl | apply w_str | apply w_tup | apply w_lst | apply w_dct0 | apply es_nil | apply es_cons | apply w_bin | apply w_neg | apply w_cmp | apply w_chn | apply w_and | apply w_or | apply w_not | apply w_ife | apply w_idx | apply w_slc | apply w_rev | apply w_call | apply w_bi | apply w_isi | apply w_mth | apply w_lc | apply o_no | apply o_so | apply ts_nil | apply ts_cons | apply i_val | apply i_rng1 | apply i_rng2 | apply i_enu | apply i_zip | apply o_addI | apply o_subI | apply b_lenT | apply b_lenR | apply b_abs | apply b_intI | apply b_tupT | apply b_listT | apply l_tup | apply l_rol | apply bo_bl) | ((with_reducible apply s_augA); rfl) | ((with_reducible apply s_augS); rfl) | ((with_reducible apply w_var); rfl) | ((with_reducible apply w_glb); rfl) | ((with_reducible apply w_calk); rfl) | ((fail_if_success (with_reducible show ∃ k, opC .NotIn _ _ _ = some k ∧ _)); (fail_if_success (with_reducible show ∃ k, opC .In _ _ _ = some k ∧ _)); refine ⟨_, rfl, ?_⟩)))
      refine wp_mono (with_ok (by decide) (by omega)) ?_
      rintro d t1 ⟨rfl, w1, rfl, hw1, lw1⟩
      (repeat (first | ((with_reducible show Wp (evSs _ _ (List.set _ _ _) _) _); simp only [List.set_cons_succ, List.set_cons_zero]) | with_reducible (first | apply s_cons | apply th_nx | apply th_rt | apply th_bk | apply th_ct | apply s_nil | apply s_set | apply s_par2 | apply s_seti | apply s_ife | apply s_ret | apply s_retN | apply s_exp | apply s_brk | apply s_cnt | apply s_pss | apply s_loop | apply rt_rt | apply rt_nx | apply wh_nx | apply wh_ct | apply wh_bk | apply wh_rt | apply w_int | apply w_non | apply w_bl | apply w_str | apply w_tup | apply w_lst | apply w_dct0 | apply es_nil | apply es_cons | apply w_bin | apply w_neg | apply w_cmp | apply w_chn | apply w_and | apply w_or | apply w_not | apply w_ife | apply w_idx | apply w_slc | apply w_rev | apply w_call | apply w_bi | apply w_isi | apply w_mth | apply w_lc | apply o_no | apply o_so | apply ts_nil | apply ts_cons | apply i_val | apply i_rng1 | apply i_rng2 | apply i_enu | apply i_zip | apply o_addI | apply o_subI | apply b_lenT | apply b_lenR | apply b_abs | apply b_intI | apply b_tupT | apply b_listT | apply l_tup | apply l_rol | apply bo_bl) | ((with_reducible apply s_augA); rfl) | ((with_reducible apply s_augS); rfl) | ((with_reducible apply w_var); rfl) | ((with_reducible apply w_glb); rfl) | ((with_reducible apply w_calk); rfl) | ((fail_if_success (with_reducible show ∃ k, opC .NotIn _ _ _ = some k ∧ _)); (fail_if_success (with_reducible show ∃ k, opC .In _ _ _ = some k ∧ _)); refine ⟨_, rfl, ?_⟩)))
      refine wp_mono (with_ok (by decide) (by omega)) ?_
      rintro d t2 ⟨rfl, w2, rfl, hw2, lw2⟩
      (repeat (first | ((with_reducible show Wp (evSs _ _ (List.set _ _ _) _) _); simp only [List.set_cons_succ, List.set_cons_zero]) | with_reducible (first | apply s_cons | apply th_nx | apply th_rt | apply th_bk | apply th_ct | apply s_nil | apply s_set | apply s_par2 | apply s_seti | apply s_ife | apply s_ret | apply s_retN | apply s_exp | apply s_brk | apply s_cnt | apply s_pss | apply s_loop | apply rt_rt | apply rt_nx | apply wh_nx | apply wh_ct | apply wh_bk | apply wh_rt | apply w_int | apply w_non | apply w_bl | apply w_str | apply w_tup | apply w_lst | apply w_dct0 | apply es_nil | apply es_cons | apply w_bin | apply w_neg | apply w_cmp | apply w_chn | apply w_and | apply w_or | apply w_not | apply w_ife | apply w_idx | apply w_slc | apply w_rev | apply w_call | apply w_bi | apply w_isi | apply w_mth | apply w_lc | apply o_no | apply o_so | apply ts_nil | apply ts_cons | apply i_val | apply i_rng1 | apply i_rng2 | apply i_enu | apply i_zip | apply o_addI | apply o_subI | apply b_lenT | apply b_lenR | apply b_abs | apply b_intI | apply b_tupT | apply b_listT | apply l_tup | apply l_rol | apply bo_bl) | ((with_reducible apply s_augA); rfl) | ((with_reducible apply s_augS); rfl) | ((with_reducible apply w_var); rfl) | ((with_reducible apply w_glb); rfl) | ((with_reducible apply w_calk); rfl) | ((fail_if_success (with_reducible show ∃ k, opC .NotIn _ _ _ = some k ∧ _)); (fail_if_success (with_reducible show ∃ k, opC .In _ _ _ = some k ∧ _)); refine ⟨_, rfl, ?_⟩)))
      refine m_extend (push_old hvv) push_at (by rw [sizeLine_eq]; simp only [List.length_cons, List.length_nil] at hlen ⊢; omega) ?_
      have e1 : ∀ y ∈ w1, El y := fun y hy => by
        rcases hw1 y hy with z | rfl
        · exact eL y z
        · exact va_bl
      have e2 : ∀ y ∈ w2, El y := fun y hy => by
        rcases hw2 y hy with z | rfl
        · exact eL y z
        · exact el_int (by decide)
      have lt2 : v < t2.length := (List.getElem?_eq_some_iff.mp hvv).1
      generalize hV : vals ++ [D.tup lg, D.tup (lg ++ [D.int 0]), D.tup (lg ++ [D.non]), D.tup w1, D.tup w2] = V2
      have GV2 : ∀ c : C, ∀ d ∈ V2, GV A ((t2 ++ [c]).set v (.lst V2)) d := by
        intro c d hd
        rw [← hV] at hd
        rcases List.mem_append.mp hd with hd | hd
        · exact (hG d hd).keep fun n c h e => ⟨h, set_old (push_old e) (by have := ofA n h; omega)⟩
        · simp only [List.mem_cons, List.not_mem_nil, or_false] at hd
          rcases hd with rfl | rfl | rfl | rfl | rfl
          · exact gv_tup eL (by omega)
          · exact gv_tup (el_snoc eL (el_int (by decide))) (by simp; omega)
          · exact gv_tup (el_snoc eL va_non) (by simp; omega)
          · exact gv_tup e1 (by omega)
          · exact gv_tup e2 (by omega)
      have hv3 : ∀ c : C, ((t2 ++ [c]).set v (.lst V2))[v]? = some (.lst V2) := fun c => set_at (push_old hvv)
      have B3' : ∀ c : C, Bag q b ((t2 ++ [c]).set v (.lst V2)) := fun c => (push c B').keep (set_ne vq) (set_ne vb)
      refine th_nx ?_
      refine s_cons ?_
      refine s_loop (i_val (w_var rfl (src_loc (hv3 _) ?_)))
      refine fo_inv (fun ys e s3 => ∃ (x4 x11 x16 x17 : Option D), e = [some (.rol (ns.map D.int)), some (.loc b), some x, x3, x4, some (.tup (bs.map D.int)), some (lastD bs), some (.int bs.sum), some (.loc v), x9, some (.tup lg), x11, x12, x13, x14, x15, x16, x17] ∧ s3[v]? = some (.lst V2) ∧ (∀ d ∈ ys, GV A s3 d) ∧ Bag q b s3) ?_ ?_ ⟨_, _, _, _, rfl, hv3 _, GV2 _, B3' _⟩
      · rintro val ys e s3 ⟨x4, x11, x16, x17, rfl, hv4, hG4, B4⟩
        refine ⟨fo_some hv4, _, rfl, ?_⟩
        have g0 := hG4 val List.mem_cons_self
        have kp : ∀ {t : Sto}, Kx [] s3 t → ∀ n c, A n → s3[n]? = some c → A n ∧ t[n]? = some c := fun K n c h e => ⟨h, K.get e (by simp)⟩
        (repeat (first | ((with_reducible show Wp (evSs _ _ (List.set _ _ _) _) _); simp only [List.set_cons_succ, List.set_cons_zero]) | with_reducible (first | apply s_cons | apply th_nx | apply th_rt | apply th_bk | apply th_ct | apply s_nil | apply s_set | apply s_par2 | apply s_seti | apply s_ife | apply s_ret | apply s_retN | apply s_exp | apply s_brk | apply s_cnt | apply s_pss | apply s_loop | apply rt_rt | apply rt_nx | apply wh_nx | apply wh_ct | apply wh_bk | apply wh_rt | apply w_int | apply w_non | apply w_bl | apply w_str | apply w_tup | apply w_lst | apply w_dct0 | apply es_nil | apply es_cons | apply w_bin | apply w_neg | apply w_cmp | apply w_chn | apply w_and | apply w_or | apply w_not | apply w_ife | apply w_idx | apply w_slc | apply w_rev | apply w_call | apply w_bi | apply w_isi | apply w_mth | apply w_lc | apply o_no | apply o_so | apply ts_nil | apply ts_cons | apply i_val | apply i_rng1 | apply i_rng2 | apply i_enu | apply i_zip | apply o_addI | apply o_subI | apply b_lenT | apply b_lenR | apply b_abs | apply b_intI | apply b_tupT | apply b_listT | apply l_tup | apply l_rol | apply bo_bl) | ((with_reducible apply s_augA); rfl) | ((with_reducible apply s_augS); rfl) | ((with_reducible apply w_var); rfl) | ((with_reducible apply w_glb); rfl) | ((with_reducible apply w_calk); rfl) | ((fail_if_success (with_reducible show ∃ k, opC .NotIn _ _ _ = some k ∧ _)); (fail_if_success (with_reducible show ∃ k, opC .In _ _ _ = some k ∧ _)); refine ⟨_, rfl, ?_⟩)))
        refine wp_mono (due_ok g0.kt) ?_
        rintro d s4 ⟨rfl, K4⟩
        obtain ⟨z, r1, r2⟩ := (g0.keep (kp K4)).same (A' := A) (s' := s4 ++ [C.lst [ew val, ew val]] ++ [C.lst [ew val, ew val]]) fun n c h e => ⟨h, push_old (push_old e)⟩
        have kt4 := (g0.keep (kp K4)).kt
        have pp : Pus 100 1 42 [ew val, ew val] := vas_cons (ew_pu val) (vas_cons (m := 0) (ew_pu val) vas_nil)
        (repeat (first | ((with_reducible show Wp (evSs _ _ (List.set _ _ _) _) _); simp only [List.set_cons_succ, List.set_cons_zero]) | with_reducible (first | apply s_cons | apply th_nx | apply th_rt | apply th_bk | apply th_ct | apply s_nil | apply s_set | apply s_par2 | apply s_seti | apply s_ife | apply s_ret | apply s_retN | apply s_exp | apply s_brk | apply s_cnt | apply s_pss | apply s_loop | apply rt_rt | apply rt_nx | apply wh_nx | apply wh_ct | apply wh_bk | apply wh_rt | apply w_int | apply w_non | apply w_bl | apply w_str | apply w_tup | apply w_lst | apply w_dct0 | apply es_nil | apply es_cons | apply w_bin | apply w_neg | apply w_cmp | apply w_chn | apply w_and | apply w_or | apply w_not | apply w_ife | apply w_idx | apply w_slc | apply w_rev | apply w_call | apply w_bi | apply w_isi | apply w_mth | apply w_lc | apply o_no | apply o_so | apply ts_nil | apply ts_cons | apply i_val | apply i_rng1 | apply i_rng2 | apply i_enu | apply i_zip | apply o_addI | apply o_subI | apply b_lenT | apply b_lenR | apply b_abs | apply b_intI | apply b_tupT | apply b_listT | apply l_tup | apply l_rol | apply bo_bl) | ((with_reducible apply s_augA); rfl) | ((with_reducible apply s_augS); rfl) | ((with_reducible apply w_var); rfl) | ((with_reducible apply w_glb); rfl) | ((with_reducible apply w_calk); rfl) | ((fail_if_success (with_reducible show ∃ k, opC .NotIn _ _ _ = some k ∧ _)); (fail_if_success (with_reducible show ∃ k, opC .In _ _ _ = some k ∧ _)); refine ⟨_, rfl, ?_⟩)))
        refine b_repr r1 ?_
        refine ⟨by simp, ?_⟩
        (repeat (first | ((with_reducible show Wp (evSs _ _ (List.set _ _ _) _) _); simp only [List.set_cons_succ, List.set_cons_zero]) | with_reducible (first | apply s_cons | apply th_nx | apply th_rt | apply th_bk | apply th_ct | apply s_nil | apply s_set | apply s_par2 | apply s_seti | apply s_ife | apply s_ret | apply s_retN | apply s_exp | apply s_brk | apply s_cnt | apply s_pss | apply s_loop | apply rt_rt | apply rt_nx | apply wh_nx | apply wh_ct | apply wh_bk | apply wh_rt | apply w_int | apply w_non | apply w_bl | apply w_str | apply w_tup | apply w_lst | apply w_dct0 | apply es_nil | apply es_cons | apply w_bin | apply w_neg | apply w_cmp | apply w_chn | apply w_and | apply w_or | apply w_not | apply w_ife | apply w_idx | apply w_slc | apply w_rev | apply w_call | apply w_bi | apply w_isi | apply w_mth | apply w_lc | apply o_no | apply o_so | apply ts_nil | apply ts_cons | apply i_val | apply i_rng1 | apply i_rng2 | apply i_enu | apply i_zip | apply o_addI | apply o_subI | apply b_lenT | apply b_lenR | apply b_abs | apply b_intI | apply b_tupT | apply b_listT | apply l_tup | apply l_rol | apply bo_bl) | ((with_reducible apply s_augA); rfl) | ((with_reducible apply s_augS); rfl) | ((with_reducible apply w_var); rfl) | ((with_reducible apply w_glb); rfl) | ((with_reducible apply w_calk); rfl) | ((fail_if_success (with_reducible show ∃ k, opC .NotIn _ _ _ = some k ∧ _)); (fail_if_success (with_reducible show ∃ k, opC .In _ _ _ = some k ∧ _)); refine ⟨_, rfl, ?_⟩)))
        refine wp_mono (error_ok kt4) ?_
        rintro d s5 ⟨rfl, rfl⟩
        (repeat (first | ((with_reducible show Wp (evSs _ _ (List.set _ _ _) _) _); simp only [List.set_cons_succ, List.set_cons_zero]) | with_reducible (first | apply s_cons | apply th_nx | apply th_rt | apply th_bk | apply th_ct | apply s_nil | apply s_set | apply s_par2 | apply s_seti | apply s_ife | apply s_ret | apply s_retN | apply s_exp | apply s_brk | apply s_cnt | apply s_pss | apply s_loop | apply rt_rt | apply rt_nx | apply wh_nx | apply wh_ct | apply wh_bk | apply wh_rt | apply w_int | apply w_non | apply w_bl | apply w_str | apply w_tup | apply w_lst | apply w_dct0 | apply es_nil | apply es_cons | apply w_bin | apply w_neg | apply w_cmp | apply w_chn | apply w_and | apply w_or | apply w_not | apply w_ife | apply w_idx | apply w_slc | apply w_rev | apply w_call | apply w_bi | apply w_isi | apply w_mth | apply w_lc | apply o_no | apply o_so | apply ts_nil | apply ts_cons | apply i_val | apply i_rng1 | apply i_rng2 | apply i_enu | apply i_zip | apply o_addI | apply o_subI | apply b_lenT | apply b_lenR | apply b_abs | apply b_intI | apply b_tupT | apply b_listT | apply l_tup | apply l_rol | apply bo_bl) | ((with_reducible apply s_augA); rfl) | ((with_reducible apply s_augS); rfl) | ((with_reducible apply w_var); rfl) | ((with_reducible apply w_glb); rfl) | ((with_reducible apply w_calk); rfl) | ((fail_if_success (with_reducible show ∃ k, opC .NotIn _ _ _ = some k ∧ _)); (fail_if_success (with_reducible show ∃ k, opC .In _ _ _ = some k ∧ _)); refine ⟨_, rfl, ?_⟩)))
        refine wp_mono (error_ok kt4) ?_
        rintro d s6 ⟨rfl, rfl⟩
        (repeat (first | ((with_reducible show Wp (evSs _ _ (List.set _ _ _) _) _); simp only [List.set_cons_succ, List.set_cons_zero]) | with_reducible (first | apply s_cons | apply th_nx | apply th_rt | apply th_bk | apply th_ct | apply s_nil | apply s_set | apply s_par2 | apply s_seti | apply s_ife | apply s_ret | apply s_retN | apply s_exp | apply s_brk | apply s_cnt | apply s_pss | apply s_loop | apply rt_rt | apply rt_nx | apply wh_nx | apply wh_ct | apply wh_bk | apply wh_rt | apply w_int | apply w_non | apply w_bl | apply w_str | apply w_tup | apply w_lst | apply w_dct0 | apply es_nil | apply es_cons | apply w_bin | apply w_neg | apply w_cmp | apply w_chn | apply w_and | apply w_or | apply w_not | apply w_ife | apply w_idx | apply w_slc | apply w_rev | apply w_call | apply w_bi | apply w_isi | apply w_mth | apply w_lc | apply o_no | apply o_so | apply ts_nil | apply ts_cons | apply i_val | apply i_rng1 | apply i_rng2 | apply i_enu | apply i_zip | apply o_addI | apply o_subI | apply b_lenT | apply b_lenR | apply b_abs | apply b_intI | apply b_tupT | apply b_listT | apply l_tup | apply l_rol | apply bo_bl) | ((with_reducible apply s_augA); rfl) | ((with_reducible apply s_augS); rfl) | ((with_reducible apply w_var); rfl) | ((with_reducible apply w_glb); rfl) | ((with_reducible apply w_calk); rfl) | ((fail_if_success (with_reducible show ∃ k, opC .NotIn _ _ _ = some k ∧ _)); (fail_if_success (with_reducible show ∃ k, opC .In _ _ _ = some k ∧ _)); refine ⟨_, rfl, ?_⟩)))
        refine b_repr (rep_pure push_at pp (by decide) (by decide) (by rw [sizeLine_eq]; decide)) ?_
        (repeat (first | ((with_reducible show Wp (evSs _ _ (List.set _ _ _) _) _); simp only [List.set_cons_succ, List.set_cons_zero]) | with_reducible (first | apply s_cons | apply th_nx | apply th_rt | apply th_bk | apply th_ct | apply s_nil | apply s_set | apply s_par2 | apply s_seti | apply s_ife | apply s_ret | apply s_retN | apply s_exp | apply s_brk | apply s_cnt | apply s_pss | apply s_loop | apply rt_rt | apply rt_nx | apply wh_nx | apply wh_ct | apply wh_bk | apply wh_rt | apply w_int | apply w_non | apply w_bl | apply w_str | apply w_tup | apply w_lst | apply w_dct0 | apply es_nil | apply es_cons | apply w_bin | apply w_neg | apply w_cmp | apply w_chn | apply w_and | apply w_or | apply w_not | apply w_ife | apply w_idx | apply w_slc | apply w_rev | apply w_call | apply w_bi | apply w_isi | apply w_mth | apply w_lc | apply o_no | apply o_so | apply ts_nil | apply ts_cons | apply i_val | apply i_rng1 | apply i_rng2 | apply i_enu | apply i_zip | apply o_addI | apply o_subI | apply b_lenT | apply b_lenR | apply b_abs | apply b_intI | apply b_tupT | apply b_listT | apply l_tup | apply l_rol | apply bo_bl) | ((with_reducible apply s_augA); rfl) | ((with_reducible apply s_augS); rfl) | ((with_reducible apply w_var); rfl) | ((with_reducible apply w_glb); rfl) | ((with_reducible apply w_calk); rfl) | ((fail_if_success (with_reducible show ∃ k, opC .NotIn _ _ _ = some k ∧ _)); (fail_if_success (with_reducible show ∃ k, opC .In _ _ _ = some k ∧ _)); refine ⟨_, rfl, ?_⟩)))
        refine b_repr (rep_pure push_at pp (by decide) (by decide) (by rw [sizeLine_eq]; decide)) ?_
        (repeat (first | ((with_reducible show Wp (evSs _ _ (List.set _ _ _) _) _); simp only [List.set_cons_succ, List.set_cons_zero]) | with_reducible (first | apply s_cons | apply th_nx | apply th_rt | apply th_bk | apply th_ct | apply s_nil | apply s_set | apply s_par2 | apply s_seti | apply s_ife | apply s_ret | apply s_retN | apply s_exp | apply s_brk | apply s_cnt | apply s_pss | apply s_loop | apply rt_rt | apply rt_nx | apply wh_nx | apply wh_ct | apply wh_bk | apply wh_rt | apply w_int | apply w_non | apply w_bl | apply w_str | apply w_tup | apply w_lst | apply w_dct0 | apply es_nil | apply es_cons | apply w_bin | apply w_neg | apply w_cmp | apply w_chn | apply w_and | apply w_or | apply w_not | apply w_ife | apply w_idx | apply w_slc | apply w_rev | apply w_call | apply w_bi | apply w_isi | apply w_mth | apply w_lc | apply o_no | apply o_so | apply ts_nil | apply ts_cons | apply i_val | apply i_rng1 | apply i_rng2 | apply i_enu | apply i_zip | apply o_addI | apply o_subI | apply b_lenT | apply b_lenR | apply b_abs | apply b_intI | apply b_tupT | apply b_listT | apply l_tup | apply l_rol | apply bo_bl) | ((with_reducible apply s_augA); rfl) | ((with_reducible apply s_augS); rfl) | ((with_reducible apply w_var); rfl) | ((with_reducible apply w_glb); rfl) | ((with_reducible apply w_calk); rfl) | ((fail_if_success (with_reducible show ∃ k, opC .NotIn _ _ _ = some k ∧ _)); (fail_if_success (with_reducible show ∃ k, opC .In _ _ _ = some k ∧ _)); refine ⟨_, rfl, ?_⟩)))
        refine ⟨fun e => by simp at e, fun _ => ?_⟩
        (repeat (first | ((with_reducible show Wp (evSs _ _ (List.set _ _ _) _) _); simp only [List.set_cons_succ, List.set_cons_zero]) | with_reducible (first | apply s_cons | apply th_nx | apply th_rt | apply th_bk | apply th_ct | apply s_nil | apply s_set | apply s_par2 | apply s_seti | apply s_ife | apply s_ret | apply s_retN | apply s_exp | apply s_brk | apply s_cnt | apply s_pss | apply s_loop | apply rt_rt | apply rt_nx | apply wh_nx | apply wh_ct | apply wh_bk | apply wh_rt | apply w_int | apply w_non | apply w_bl | apply w_str | apply w_tup | apply w_lst | apply w_dct0 | apply es_nil | apply es_cons | apply w_bin | apply w_neg | apply w_cmp | apply w_chn | apply w_and | apply w_or | apply w_not | apply w_ife | apply w_idx | apply w_slc | apply w_rev | apply w_call | apply w_bi | apply w_isi | apply w_mth | apply w_lc | apply o_no | apply o_so | apply ts_nil | apply ts_cons | apply i_val | apply i_rng1 | apply i_rng2 | apply i_enu | apply i_zip | apply o_addI | apply o_subI | apply b_lenT | apply b_lenR | apply b_abs | apply b_intI | apply b_tupT | apply b_listT | apply l_tup | apply l_rol | apply bo_bl) | ((with_reducible apply s_augA); rfl) | ((with_reducible apply s_augS); rfl) | ((with_reducible apply w_var); rfl) | ((with_reducible apply w_glb); rfl) | ((with_reducible apply w_calk); rfl) | ((fail_if_success (with_reducible show ∃ k, opC .NotIn _ _ _ = some k ∧ _)); (fail_if_success (with_reducible show ∃ k, opC .In _ _ _ = some k ∧ _)); refine ⟨_, rfl, ?_⟩)))
        refine b_repr r2 ?_
        (repeat (first | ((with_reducible show Wp (evSs _ _ (List.set _ _ _) _) _); simp only [List.set_cons_succ, List.set_cons_zero]) | with_reducible (first | apply s_cons | apply th_nx | apply th_rt | apply th_bk | apply th_ct | apply s_nil | apply s_set | apply s_par2 | apply s_seti | apply s_ife | apply s_ret | apply s_retN | apply s_exp | apply s_brk | apply s_cnt | apply s_pss | apply s_loop | apply rt_rt | apply rt_nx | apply wh_nx | apply wh_ct | apply wh_bk | apply wh_rt | apply w_int | apply w_non | apply w_bl | apply w_str | apply w_tup | apply w_lst | apply w_dct0 | apply es_nil | apply es_cons | apply w_bin | apply w_neg | apply w_cmp | apply w_chn | apply w_and | apply w_or | apply w_not | apply w_ife | apply w_idx | apply w_slc | apply w_rev | apply w_call | apply w_bi | apply w_isi | apply w_mth | apply w_lc | apply o_no | apply o_so | apply ts_nil | apply ts_cons | apply i_val | apply i_rng1 | apply i_rng2 | apply i_enu | apply i_zip | apply o_addI | apply o_subI | apply b_lenT | apply b_lenR | apply b_abs | apply b_intI | apply b_tupT | apply b_listT | apply l_tup | apply l_rol | apply bo_bl) | ((with_reducible apply s_augA); rfl) | ((with_reducible apply s_augS); rfl) | ((with_reducible apply w_var); rfl) | ((with_reducible apply w_glb); rfl) | ((with_reducible apply w_calk); rfl) | ((fail_if_success (with_reducible show ∃ k, opC .NotIn _ _ _ = some k ∧ _)); (fail_if_success (with_reducible show ∃ k, opC .In _ _ _ = some k ∧ _)); refine ⟨_, rfl, ?_⟩)))
        refine ⟨fun e => by simp at e, fun _ => ?_⟩
        (repeat (first | ((with_reducible show Wp (evSs _ _ (List.set _ _ _) _) _); simp only [List.set_cons_succ, List.set_cons_zero]) | with_reducible (first | apply s_cons | apply th_nx | apply th_rt | apply th_bk | apply th_ct | apply s_nil | apply s_set | apply s_par2 | apply s_seti | apply s_ife | apply s_ret | apply s_retN | apply s_exp | apply s_brk | apply s_cnt | apply s_pss | apply s_loop | apply rt_rt | apply rt_nx | apply wh_nx | apply wh_ct | apply wh_bk | apply wh_rt | apply w_int | apply w_non | apply w_bl | apply w_str | apply w_tup | apply w_lst | apply w_dct0 | apply es_nil | apply es_cons | apply w_bin | apply w_neg | apply w_cmp | apply w_chn | apply w_and | apply w_or | apply w_not | apply w_ife | apply w_idx | apply w_slc | apply w_rev | apply w_call | apply w_bi | apply w_isi | apply w_mth | apply w_lc | apply o_no | apply o_so | apply ts_nil | apply ts_cons | apply i_val | apply i_rng1 | apply i_rng2 | apply i_enu | apply i_zip | apply o_addI | apply o_subI | apply b_lenT | apply b_lenR | apply b_abs | apply b_intI | apply b_tupT | apply b_listT | apply l_tup | apply l_rol | apply bo_bl) | ((with_reducible apply s_augA); rfl) | ((with_reducible apply s_augS); rfl) | ((with_reducible apply w_var); rfl) | ((with_reducible apply w_glb); rfl) | ((with_reducible apply w_calk); rfl) | ((fail_if_success (with_reducible show ∃ k, opC .NotIn _ _ _ = some k ∧ _)); (fail_if_success (with_reducible show ∃ k, opC .In _ _ _ = some k ∧ _)); refine ⟨_, rfl, ?_⟩)))
        have K7 : Kx [] s3 (s6 ++ [C.lst [ew val, ew val]] ++ [C.lst [ew val, ew val]]) := (K4.push _).push _
        exact ⟨_, _, _, _, rfl, K7.get hv4 (by simp), fun d hd => (hG4 d (List.mem_cons_of_mem _ hd)).keep (kp K7), B4.kx K7 (by simp) (by simp)⟩
      · rintro e s3 ⟨x4, x11, x16, x17, rfl, hv4, hG4, B4⟩
        refine ⟨fo_some hv4, ?_⟩
        (repeat (first | ((with_reducible show Wp (evSs _ _ (List.set _ _ _) _) _); simp only [List.set_cons_succ, List.set_cons_zero]) | with_reducible (first | apply s_cons | apply th_nx | apply th_rt | apply th_bk | apply th_ct | apply s_nil | apply s_set | apply s_par2 | apply s_seti | apply s_ife | apply s_ret | apply s_retN | apply s_exp | apply s_brk | apply s_cnt | apply s_pss | apply s_loop | apply rt_rt | apply rt_nx | apply wh_nx | apply wh_ct | apply wh_bk | apply wh_rt | apply w_int | apply w_non | apply w_bl | apply w_str | apply w_tup | apply w_lst | apply w_dct0 | apply es_nil | apply es_cons | apply w_bin | apply w_neg | apply w_cmp | apply w_chn | apply w_and | apply w_or | apply w_not | apply w_ife | apply w_idx | apply w_slc | apply w_rev | apply w_call | apply w_bi | apply w_isi | apply w_mth | apply w_lc | apply o_no | apply o_so | apply ts_nil | apply ts_cons | apply i_val | apply i_rng1 | apply i_rng2 | apply i_enu | apply i_zip | apply o_addI | apply o_subI | apply b_lenT | apply b_lenR | apply b_abs | apply b_intI | apply b_tupT | apply b_listT | apply l_tup | apply l_rol | apply bo_bl) | ((with_reducible apply s_augA); rfl) | ((with_reducible apply s_augS); rfl) | ((with_reducible apply w_var); rfl) | ((with_reducible apply w_glb); rfl) | ((with_reducible apply w_calk); rfl) | ((fail_if_success (with_reducible show ∃ k, opC .NotIn _ _ _ = some k ∧ _)); (fail_if_success (with_reducible show ∃ k, opC .In _ _ _ = some k ∧ _)); refine ⟨_, rfl, ?_⟩)))
        refine wp_mono (places_ok B4) ?_
        rintro d s4 ⟨rfl, B5, K5⟩
        (repeat (first | ((with_reducible show Wp (evSs _ _ (List.set _ _ _) _) _); simp only [List.set_cons_succ, List.set_cons_zero]) | with_reducible (first | apply s_cons | apply th_nx | apply th_rt | apply th_bk | apply th_ct | apply s_nil | apply s_set | apply s_par2 | apply s_seti | apply s_ife | apply s_ret | apply s_retN | apply s_exp | apply s_brk | apply s_cnt | apply s_pss | apply s_loop | apply rt_rt | apply rt_nx | apply wh_nx | apply wh_ct | apply wh_bk | apply wh_rt | apply w_int | apply w_non | apply w_bl | apply w_str | apply w_tup | apply w_lst | apply w_dct0 | apply es_nil | apply es_cons | apply w_bin | apply w_neg | apply w_cmp | apply w_chn | apply w_and | apply w_or | apply w_not | apply w_ife | apply w_idx | apply w_slc | apply w_rev | apply w_call | apply w_bi | apply w_isi | apply w_mth | apply w_lc | apply o_no | apply o_so | apply ts_nil | apply ts_cons | apply i_val | apply i_rng1 | apply i_rng2 | apply i_enu | apply i_zip | apply o_addI | apply o_subI | apply b_lenT | apply b_lenR | apply b_abs | apply b_intI | apply b_tupT | apply b_listT | apply l_tup | apply l_rol | apply bo_bl) | ((with_reducible apply s_augA); rfl) | ((with_reducible apply s_augS); rfl) | ((with_reducible apply w_var); rfl) | ((with_reducible apply w_glb); rfl) | ((with_reducible apply w_calk); rfl) | ((fail_if_success (with_reducible show ∃ k, opC .NotIn _ _ _ = some k ∧ _)); (fail_if_success (with_reducible show ∃ k, opC .In _ _ _ = some k ∧ _)); refine ⟨_, rfl, ?_⟩)))
        refine ⟨fun e => (nomatch e), fun _ => ?_⟩
        (repeat (first | ((with_reducible show Wp (evSs _ _ (List.set _ _ _) _) _); simp only [List.set_cons_succ, List.set_cons_zero]) | with_reducible (first | apply s_cons | apply th_nx | apply th_rt | apply th_bk | apply th_ct | apply s_nil | apply s_set | apply s_par2 | apply s_seti | apply s_ife | apply s_ret | apply s_retN | apply s_exp | apply s_brk | apply s_cnt | apply s_pss | apply s_loop | apply rt_rt | apply rt_nx | apply wh_nx | apply wh_ct | apply wh_bk | apply wh_rt | apply w_int | apply w_non | apply w_bl | apply w_str | apply w_tup | apply w_lst | apply w_dct0 | apply es_nil | apply es_cons | apply w_bin | apply w_neg | apply w_cmp | apply w_chn | apply w_and | apply w_or | apply w_not | apply w_ife | apply w_idx | apply w_slc | apply w_rev | apply w_call | apply w_bi | apply w_isi | apply w_mth | apply w_lc | apply o_no | apply o_so | apply ts_nil | apply ts_cons | apply i_val | apply i_rng1 | apply i_rng2 | apply i_enu | apply i_zip | apply o_addI | apply o_subI | apply b_lenT | apply b_lenR | apply b_abs | apply b_intI | apply b_tupT | apply b_listT | apply l_tup | apply l_rol | apply bo_bl) | ((with_reducible apply s_augA); rfl) | ((with_reducible apply s_augS); rfl) | ((with_reducible apply w_var); rfl) | ((with_reducible apply w_glb); rfl) | ((with_reducible apply w_calk); rfl) | ((fail_if_success (with_reducible show ∃ k, opC .NotIn _ _ _ = some k ∧ _)); (fail_if_success (with_reducible show ∃ k, opC .In _ _ _ = some k ∧ _)); refine ⟨_, rfl, ?_⟩)))
        exact ⟨_, _, _, _, _, _, _, _, _, _, _, _, _, _, _, _, rfl, B5⟩
    · have l : (rangeD 0 (c : Int).toNat).length = c := by rw [range_len]; omega
      show 10 + 3 * (rangeD 0 (c : Int).toNat).length ≤ 25
      omega
    · have l : (rangeD 0 (c : Int).toNat).length = c := by rw [range_len]; omega
      intro h
      exact cne (by have h' : 0 < (rangeD 0 (c : Int).toNat).length := h; omega)
  · rintro e s1 ⟨x2, x3, x4, x5, x6, x7, x8, x9, x10, x11, x12, x13, x14, x15, x16, x17, rfl, B⟩
    refine ⟨fo_none, ?_⟩
    (repeat (first | ((with_reducible show Wp (evSs _ _ (List.set _ _ _) _) _); simp only [List.set_cons_succ, List.set_cons_zero]) | with_reducible (first | apply s_cons | apply th_nx | apply th_rt | apply th_bk | apply th_ct | apply s_nil | apply s_set | apply s_par2 | apply s_seti | apply s_ife | apply s_ret | apply s_retN | apply s_exp | apply s_brk | apply s_cnt | apply s_pss | apply s_loop | apply rt_rt | apply rt_nx | apply wh_nx | apply wh_ct | apply wh_bk | apply wh_rt | apply w_int | apply w_non | apply w_bl | apply w_str | apply w_tup | apply w_lst | apply w_dct0 | apply es_nil | apply es_cons | apply w_bin | apply w_neg | apply w_cmp | apply w_chn | apply w_and | apply w_or | apply w_not | apply w_ife | apply w_idx | apply w_slc | apply w_rev | apply w_call | apply w_bi | apply w_isi | apply w_mth | apply w_lc | apply o_no | apply o_so | apply ts_nil | apply ts_cons | apply i_val | apply i_rng1 | apply i_rng2 | apply i_enu | apply i_zip | apply o_addI | apply o_subI | apply b_lenT | apply b_lenR | apply b_abs | apply b_intI | apply b_tupT | apply b_listT | apply l_tup | apply l_rol | apply bo_bl) | ((with_reducible apply s_augA); rfl) | ((with_reducible apply s_augS); rfl) | ((with_reducible apply w_var); rfl) | ((with_reducible apply w_glb); rfl) | ((with_reducible apply w_calk); rfl) | ((fail_if_success (with_reducible show ∃ k, opC .NotIn _ _ _ = some k ∧ _)); (fail_if_success (with_reducible show ∃ k, opC .In _ _ _ = some k ∧ _)); refine ⟨_, rfl, ?_⟩)))
    refine wp_mono (draw_ok f8 rfl B (by decide) (by decide)) ?_
    rintro d s2 ⟨r, rfl, r0, r1, B2, -⟩
    obtain ⟨k, rfl⟩ := Int.eq_ofNat_of_zero_le r0
    have k8 : k ≤ 8 := by omega
    have fl : (List.replicate ((k : Int)).toNat [D.int 0]).flatten = (List.replicate k (0 : Int)).map D.int := by
      rw [Int.toNat_natCast, List.flatten_replicate_singleton, List.map_replicate]
    have hz : Bits (List.replicate k (0 : Int)) := fun c hc => .inl (List.eq_of_mem_replicate hc)
    have pz : plv (List.replicate k (0 : Int)) = (2 : Int) ^ k := by
      have : ∀ k, k ≤ 8 → plv (List.replicate k (0 : Int)) = (2 : Int) ^ k := by decide
      exact this k k8
    have p2 : (2 : Int) ^ k ≤ 256 := pow_log (m := 8) k8
    have p1 : 0 < (2 : Int) ^ k := Int.pow_pos (by decide)
    (repeat (first | ((with_reducible show Wp (evSs _ _ (List.set _ _ _) _) _); simp only [List.set_cons_succ, List.set_cons_zero]) | with_reducible (first | apply s_cons | apply th_nx | apply th_rt | apply th_bk | apply th_ct | apply s_nil | apply s_set | apply s_par2 | apply s_seti | apply s_ife | apply s_ret | apply s_retN | apply s_exp | apply s_brk | apply s_cnt | apply s_pss | apply s_loop | apply rt_rt | apply rt_nx | apply wh_nx | apply wh_ct | apply wh_bk | apply wh_rt | apply w_int | apply w_non | apply w_bl | apply w_str | apply w_tup | apply w_lst | apply w_dct0 | apply es_nil | apply es_cons | apply w_bin | apply w_neg | apply w_cmp | apply w_chn | apply w_and | apply w_or | apply w_not | apply w_ife | apply w_idx | apply w_slc | apply w_rev | apply w_call | apply w_bi | apply w_isi | apply w_mth | apply w_lc | apply o_no | apply o_so | apply ts_nil | apply ts_cons | apply i_val | apply i_rng1 | apply i_rng2 | apply i_enu | apply i_zip | apply o_addI | apply o_subI | apply b_lenT | apply b_lenR | apply b_abs | apply b_intI | apply b_tupT | apply b_listT | apply l_tup | apply l_rol | apply bo_bl) | ((with_reducible apply s_augA); rfl) | ((with_reducible apply s_augS); rfl) | ((with_reducible apply w_var); rfl) | ((with_reducible apply w_glb); rfl) | ((with_reducible apply w_calk); rfl) | ((fail_if_success (with_reducible show ∃ k, opC .NotIn _ _ _ = some k ∧ _)); (fail_if_success (with_reducible show ∃ k, opC .In _ _ _ = some k ∧ _)); refine ⟨_, rfl, ?_⟩)))
    refine o_mulT (by simp; omega) ?_
    rw [fl]
    (repeat (first | ((with_reducible show Wp (evSs _ _ (List.set _ _ _) _) _); simp only [List.set_cons_succ, List.set_cons_zero]) | with_reducible (first | apply s_cons | apply th_nx | apply th_rt | apply th_bk | apply th_ct | apply s_nil | apply s_set | apply s_par2 | apply s_seti | apply s_ife | apply s_ret | apply s_retN | apply s_exp | apply s_brk | apply s_cnt | apply s_pss | apply s_loop | apply rt_rt | apply rt_nx | apply wh_nx | apply wh_ct | apply wh_bk | apply wh_rt | apply w_int | apply w_non | apply w_bl | apply w_str | apply w_tup | apply w_lst | apply w_dct0 | apply es_nil | apply es_cons | apply w_bin | apply w_neg | apply w_cmp | apply w_chn | apply w_and | apply w_or | apply w_not | apply w_ife | apply w_idx | apply w_slc | apply w_rev | apply w_call | apply w_bi | apply w_isi | apply w_mth | apply w_lc | apply o_no | apply o_so | apply ts_nil | apply ts_cons | apply i_val | apply i_rng1 | apply i_rng2 | apply i_enu | apply i_zip | apply o_addI | apply o_subI | apply b_lenT | apply b_lenR | apply b_abs | apply b_intI | apply b_tupT | apply b_listT | apply l_tup | apply l_rol | apply bo_bl) | ((with_reducible apply s_augA); rfl) | ((with_reducible apply s_augS); rfl) | ((with_reducible apply w_var); rfl) | ((with_reducible apply w_glb); rfl) | ((with_reducible apply w_calk); rfl) | ((fail_if_success (with_reducible show ∃ k, opC .NotIn _ _ _ = some k ∧ _)); (fail_if_success (with_reducible show ∃ k, opC .In _ _ _ = some k ∧ _)); refine ⟨_, rfl, ?_⟩)))
    refine wp_mono (place_ok f16 hz (by simp; omega)) ?_
    rintro d s3 ⟨rfl, rfl⟩
    rw [pz]
    (repeat (first | ((with_reducible show Wp (evSs _ _ (List.set _ _ _) _) _); simp only [List.set_cons_succ, List.set_cons_zero]) | with_reducible (first | apply s_cons | apply th_nx | apply th_rt | apply th_bk | apply th_ct | apply s_nil | apply s_set | apply s_par2 | apply s_seti | apply s_ife | apply s_ret | apply s_retN | apply s_exp | apply s_brk | apply s_cnt | apply s_pss | apply s_loop | apply rt_rt | apply rt_nx | apply wh_nx | apply wh_ct | apply wh_bk | apply wh_rt | apply w_int | apply w_non | apply w_bl | apply w_str | apply w_tup | apply w_lst | apply w_dct0 | apply es_nil | apply es_cons | apply w_bin | apply w_neg | apply w_cmp | apply w_chn | apply w_and | apply w_or | apply w_not | apply w_ife | apply w_idx | apply w_slc | apply w_rev | apply w_call | apply w_bi | apply w_isi | apply w_mth | apply w_lc | apply o_no | apply o_so | apply ts_nil | apply ts_cons | apply i_val | apply i_rng1 | apply i_rng2 | apply i_enu | apply i_zip | apply o_addI | apply o_subI | apply b_lenT | apply b_lenR | apply b_abs | apply b_intI | apply b_tupT | apply b_listT | apply l_tup | apply l_rol | apply bo_bl) | ((with_reducible apply s_augA); rfl) | ((with_reducible apply s_augS); rfl) | ((with_reducible apply w_var); rfl) | ((with_reducible apply w_glb); rfl) | ((with_reducible apply w_calk); rfl) | ((fail_if_success (with_reducible show ∃ k, opC .NotIn _ _ _ = some k ∧ _)); (fail_if_success (with_reducible show ∃ k, opC .In _ _ _ = some k ∧ _)); refine ⟨_, rfl, ?_⟩)))
    refine o_mulI (by have := log2_of (i := (2 : Int) ^ k - 1) (k := 100) (by omega) (by decide); have : (2 : Int).natAbs.log2 = 1 := by decide
                      omega) ?_
    (repeat (first | ((with_reducible show Wp (evSs _ _ (List.set _ _ _) _) _); simp only [List.set_cons_succ, List.set_cons_zero]) | with_reducible (first | apply s_cons | apply th_nx | apply th_rt | apply th_bk | apply th_ct | apply s_nil | apply s_set | apply s_par2 | apply s_seti | apply s_ife | apply s_ret | apply s_retN | apply s_exp | apply s_brk | apply s_cnt | apply s_pss | apply s_loop | apply rt_rt | apply rt_nx | apply wh_nx | apply wh_ct | apply wh_bk | apply wh_rt | apply w_int | apply w_non | apply w_bl | apply w_str | apply w_tup | apply w_lst | apply w_dct0 | apply es_nil | apply es_cons | apply w_bin | apply w_neg | apply w_cmp | apply w_chn | apply w_and | apply w_or | apply w_not | apply w_ife | apply w_idx | apply w_slc | apply w_rev | apply w_call | apply w_bi | apply w_isi | apply w_mth | apply w_lc | apply o_no | apply o_so | apply ts_nil | apply ts_cons | apply i_val | apply i_rng1 | apply i_rng2 | apply i_enu | apply i_zip | apply o_addI | apply o_subI | apply b_lenT | apply b_lenR | apply b_abs | apply b_intI | apply b_tupT | apply b_listT | apply l_tup | apply l_rol | apply bo_bl) | ((with_reducible apply s_augA); rfl) | ((with_reducible apply s_augS); rfl) | ((with_reducible apply w_var); rfl) | ((with_reducible apply w_glb); rfl) | ((with_reducible apply w_calk); rfl) | ((fail_if_success (with_reducible show ∃ k, opC .NotIn _ _ _ = some k ∧ _)); (fail_if_success (with_reducible show ∃ k, opC .In _ _ _ = some k ∧ _)); refine ⟨_, rfl, ?_⟩)))
    refine ⟨⟨by omega, by omega⟩, ?_⟩
    have nn : (2 * ((2 : Int) ^ k - 1) + 1).toNat ≤ 511 := by omega
    refine lc_kx (X := []) (fun x r => ∀ p : Nat, x = .int p → r = some (wD (digs (p + 1)))) (fun _ => True) (fun _ _ _ _ => trivial) (by simp) trivial ?_ (by rintro n ys e; cases e) ?_ ?_
    · show (rangeD 0 _).length ≤ _
      rw [range_len, sizeLine_eq]
      omega
    · rintro x hx s4 K lt -
      obtain ⟨p, rfl, hp⟩ := mem_range (lo := 0) hx
      refine ⟨_, rfl, ?_⟩
      (repeat (first | ((with_reducible show Wp (evSs _ _ (List.set _ _ _) _) _); simp only [List.set_cons_succ, List.set_cons_zero]) | with_reducible (first | apply s_cons | apply th_nx | apply th_rt | apply th_bk | apply th_ct | apply s_nil | apply s_set | apply s_par2 | apply s_seti | apply s_ife | apply s_ret | apply s_retN | apply s_exp | apply s_brk | apply s_cnt | apply s_pss | apply s_loop | apply rt_rt | apply rt_nx | apply wh_nx | apply wh_ct | apply wh_bk | apply wh_rt | apply w_int | apply w_non | apply w_bl | apply w_str | apply w_tup | apply w_lst | apply w_dct0 | apply es_nil | apply es_cons | apply w_bin | apply w_neg | apply w_cmp | apply w_chn | apply w_and | apply w_or | apply w_not | apply w_ife | apply w_idx | apply w_slc | apply w_rev | apply w_call | apply w_bi | apply w_isi | apply w_mth | apply w_lc | apply o_no | apply o_so | apply ts_nil | apply ts_cons | apply i_val | apply i_rng1 | apply i_rng2 | apply i_enu | apply i_zip | apply o_addI | apply o_subI | apply b_lenT | apply b_lenR | apply b_abs | apply b_intI | apply b_tupT | apply b_listT | apply l_tup | apply l_rol | apply bo_bl) | ((with_reducible apply s_augA); rfl) | ((with_reducible apply s_augS); rfl) | ((with_reducible apply w_var); rfl) | ((with_reducible apply w_glb); rfl) | ((with_reducible apply w_calk); rfl) | ((fail_if_success (with_reducible show ∃ k, opC .NotIn _ _ _ = some k ∧ _)); (fail_if_success (with_reducible show ∃ k, opC .In _ _ _ = some k ∧ _)); refine ⟨_, rfl, ?_⟩)))
      refine ⟨fun _ => ?_, fun e => nomatch e⟩
      (repeat (first | ((with_reducible show Wp (evSs _ _ (List.set _ _ _) _) _); simp only [List.set_cons_succ, List.set_cons_zero]) | with_reducible (first | apply s_cons | apply th_nx | apply th_rt | apply th_bk | apply th_ct | apply s_nil | apply s_set | apply s_par2 | apply s_seti | apply s_ife | apply s_ret | apply s_retN | apply s_exp | apply s_brk | apply s_cnt | apply s_pss | apply s_loop | apply rt_rt | apply rt_nx | apply wh_nx | apply wh_ct | apply wh_bk | apply wh_rt | apply w_int | apply w_non | apply w_bl | apply w_str | apply w_tup | apply w_lst | apply w_dct0 | apply es_nil | apply es_cons | apply w_bin | apply w_neg | apply w_cmp | apply w_chn | apply w_and | apply w_or | apply w_not | apply w_ife | apply w_idx | apply w_slc | apply w_rev | apply w_call | apply w_bi | apply w_isi | apply w_mth | apply w_lc | apply o_no | apply o_so | apply ts_nil | apply ts_cons | apply i_val | apply i_rng1 | apply i_rng2 | apply i_enu | apply i_zip | apply o_addI | apply o_subI | apply b_lenT | apply b_lenR | apply b_abs | apply b_intI | apply b_tupT | apply b_listT | apply l_tup | apply l_rol | apply bo_bl) | ((with_reducible apply s_augA); rfl) | ((with_reducible apply s_augS); rfl) | ((with_reducible apply w_var); rfl) | ((with_reducible apply w_glb); rfl) | ((with_reducible apply w_calk); rfl) | ((fail_if_success (with_reducible show ∃ k, opC .NotIn _ _ _ = some k ∧ _)); (fail_if_success (with_reducible show ∃ k, opC .In _ _ _ = some k ∧ _)); refine ⟨_, rfl, ?_⟩)))
      refine wp_mono (digits_ok (by omega)) ?_
      rintro d s5 ⟨rfl, K5⟩
      refine ⟨fun p' e => ?_, trivial, K5⟩
      cases e
      rfl
    rintro ys s4 e4 fm - K4 lt
    have hy : ys = (upto k).map wD := by
      rw [fm_range (lo := 0) fm]
      have q : ∀ k, k ≤ 8 → (List.range (2 * ((2 : Int) ^ k - 1) + 1).toNat).map (fun p => digs (0 + p + 1)) = upto k := by decide +kernel
      rw [← q k k8, List.map_map]
      rfl
    subst hy
    (repeat (first | ((with_reducible show Wp (evSs _ _ (List.set _ _ _) _) _); simp only [List.set_cons_succ, List.set_cons_zero]) | with_reducible (first | apply s_cons | apply th_nx | apply th_rt | apply th_bk | apply th_ct | apply s_nil | apply s_set | apply s_par2 | apply s_seti | apply s_ife | apply s_ret | apply s_retN | apply s_exp | apply s_brk | apply s_cnt | apply s_pss | apply s_loop | apply rt_rt | apply rt_nx | apply wh_nx | apply wh_ct | apply wh_bk | apply wh_rt | apply w_int | apply w_non | apply w_bl | apply w_str | apply w_tup | apply w_lst | apply w_dct0 | apply es_nil | apply es_cons | apply w_bin | apply w_neg | apply w_cmp | apply w_chn | apply w_and | apply w_or | apply w_not | apply w_ife | apply w_idx | apply w_slc | apply w_rev | apply w_call | apply w_bi | apply w_isi | apply w_mth | apply w_lc | apply o_no | apply o_so | apply ts_nil | apply ts_cons | apply i_val | apply i_rng1 | apply i_rng2 | apply i_enu | apply i_zip | apply o_addI | apply o_subI | apply b_lenT | apply b_lenR | apply b_abs | apply b_intI | apply b_tupT | apply b_listT | apply l_tup | apply l_rol | apply bo_bl) | ((with_reducible apply s_augA); rfl) | ((with_reducible apply s_augS); rfl) | ((with_reducible apply w_var); rfl) | ((with_reducible apply w_glb); rfl) | ((with_reducible apply w_calk); rfl) | ((fail_if_success (with_reducible show ∃ k, opC .NotIn _ _ _ = some k ∧ _)); (fail_if_success (with_reducible show ∃ k, opC .In _ _ _ = some k ∧ _)); refine ⟨_, rfl, ?_⟩)))
    refine b_tupL e4 ?_
    (repeat (first | ((with_reducible show Wp (evSs _ _ (List.set _ _ _) _) _); simp only [List.set_cons_succ, List.set_cons_zero]) | with_reducible (first | apply s_cons | apply th_nx | apply th_rt | apply th_bk | apply th_ct | apply s_nil | apply s_set | apply s_par2 | apply s_seti | apply s_ife | apply s_ret | apply s_retN | apply s_exp | apply s_brk | apply s_cnt | apply s_pss | apply s_loop | apply rt_rt | apply rt_nx | apply wh_nx | apply wh_ct | apply wh_bk | apply wh_rt | apply w_int | apply w_non | apply w_bl | apply w_str | apply w_tup | apply w_lst | apply w_dct0 | apply es_nil | apply es_cons | apply w_bin | apply w_neg | apply w_cmp | apply w_chn | apply w_and | apply w_or | apply w_not | apply w_ife | apply w_idx | apply w_slc | apply w_rev | apply w_call | apply w_bi | apply w_isi | apply w_mth | apply w_lc | apply o_no | apply o_so | apply ts_nil | apply ts_cons | apply i_val | apply i_rng1 | apply i_rng2 | apply i_enu | apply i_zip | apply o_addI | apply o_subI | apply b_lenT | apply b_lenR | apply b_abs | apply b_intI | apply b_tupT | apply b_listT | apply l_tup | apply l_rol | apply bo_bl) | ((with_reducible apply s_augA); rfl) | ((with_reducible apply s_augS); rfl) | ((with_reducible apply w_var); rfl) | ((with_reducible apply w_glb); rfl) | ((with_reducible apply w_calk); rfl) | ((fail_if_success (with_reducible show ∃ k, opC .NotIn _ _ _ = some k ∧ _)); (fail_if_success (with_reducible show ∃ k, opC .In _ _ _ = some k ∧ _)); refine ⟨_, rfl, ?_⟩)))
    refine wp_mono (upto_ok k8) ?_
    rintro d s5 ⟨rfl, K5⟩
    (repeat (first | ((with_reducible show Wp (evSs _ _ (List.set _ _ _) _) _); simp only [List.set_cons_succ, List.set_cons_zero]) | with_reducible (first | apply s_cons | apply th_nx | apply th_rt | apply th_bk | apply th_ct | apply s_nil | apply s_set | apply s_par2 | apply s_seti | apply s_ife | apply s_ret | apply s_retN | apply s_exp | apply s_brk | apply s_cnt | apply s_pss | apply s_loop | apply rt_rt | apply rt_nx | apply wh_nx | apply wh_ct | apply wh_bk | apply wh_rt | apply w_int | apply w_non | apply w_bl | apply w_str | apply w_tup | apply w_lst | apply w_dct0 | apply es_nil | apply es_cons | apply w_bin | apply w_neg | apply w_cmp | apply w_chn | apply w_and | apply w_or | apply w_not | apply w_ife | apply w_idx | apply w_slc | apply w_rev | apply w_call | apply w_bi | apply w_isi | apply w_mth | apply w_lc | apply o_no | apply o_so | apply ts_nil | apply ts_cons | apply i_val | apply i_rng1 | apply i_rng2 | apply i_enu | apply i_zip | apply o_addI | apply o_subI | apply b_lenT | apply b_lenR | apply b_abs | apply b_intI | apply b_tupT | apply b_listT | apply l_tup | apply l_rol | apply bo_bl) | ((with_reducible apply s_augA); rfl) | ((with_reducible apply s_augS); rfl) | ((with_reducible apply w_var); rfl) | ((with_reducible apply w_glb); rfl) | ((with_reducible apply w_calk); rfl) | ((fail_if_success (with_reducible show ∃ k, opC .NotIn _ _ _ = some k ∧ _)); (fail_if_success (with_reducible show ∃ k, opC .In _ _ _ = some k ∧ _)); refine ⟨_, rfl, ?_⟩)))
    refine wp_mono (upto_ok k8) ?_
    rintro d s6 ⟨rfl, K6⟩
    have pw : Pu 100 2 5000 (.tup ((upto k).map wD)) := by
      have each : ∀ d ∈ (upto k).map wD, Pu 100 1 8 d := by
        intro d hd
        obtain ⟨w, hw, rfl⟩ := List.mem_map.mp hd
        have q : ∀ k, k ≤ 8 → ∀ w ∈ upto k, w.length ≤ 8 ∧ ∀ c ∈ w, c = 0 ∨ c = 1 := by decide +kernel
        obtain ⟨h1, h2⟩ := q k k8 w hw
        exact (va_tup (k := 0) (pus_ints (bits_small h2))).mono (by decide) h1
      have len := upto_len k
      have l2 : 2 ^ (k + 1) ≤ 2 ^ 9 := Nat.pow_le_pow_right (by decide) (by omega)
      exact (va_tup (vas_all each)).mono (by decide) (by rw [List.length_map]; omega)
    have pp : Pus 100 2 10002 [.tup ((upto k).map wD), .tup ((upto k).map wD)] := vas_cons pw (vas_cons (m := 0) pw vas_nil)
    (repeat (first | ((with_reducible show Wp (evSs _ _ (List.set _ _ _) _) _); simp only [List.set_cons_succ, List.set_cons_zero]) | with_reducible (first | apply s_cons | apply th_nx | apply th_rt | apply th_bk | apply th_ct | apply s_nil | apply s_set | apply s_par2 | apply s_seti | apply s_ife | apply s_ret | apply s_retN | apply s_exp | apply s_brk | apply s_cnt | apply s_pss | apply s_loop | apply rt_rt | apply rt_nx | apply wh_nx | apply wh_ct | apply wh_bk | apply wh_rt | apply w_int | apply w_non | apply w_bl | apply w_str | apply w_tup | apply w_lst | apply w_dct0 | apply es_nil | apply es_cons | apply w_bin | apply w_neg | apply w_cmp | apply w_chn | apply w_and | apply w_or | apply w_not | apply w_ife | apply w_idx | apply w_slc | apply w_rev | apply w_call | apply w_bi | apply w_isi | apply w_mth | apply w_lc | apply o_no | apply o_so | apply ts_nil | apply ts_cons | apply i_val | apply i_rng1 | apply i_rng2 | apply i_enu | apply i_zip | apply o_addI | apply o_subI | apply b_lenT | apply b_lenR | apply b_abs | apply b_intI | apply b_tupT | apply b_listT | apply l_tup | apply l_rol | apply bo_bl) | ((with_reducible apply s_augA); rfl) | ((with_reducible apply s_augS); rfl) | ((with_reducible apply w_var); rfl) | ((with_reducible apply w_glb); rfl) | ((with_reducible apply w_calk); rfl) | ((fail_if_success (with_reducible show ∃ k, opC .NotIn _ _ _ = some k ∧ _)); (fail_if_success (with_reducible show ∃ k, opC .In _ _ _ = some k ∧ _)); refine ⟨_, rfl, ?_⟩)))
    refine b_repr (rep_pure push_at pp (by decide) (by decide) (by rw [sizeLine_eq]; decide)) ?_
    (repeat (first | ((with_reducible show Wp (evSs _ _ (List.set _ _ _) _) _); simp only [List.set_cons_succ, List.set_cons_zero]) | with_reducible (first | apply s_cons | apply th_nx | apply th_rt | apply th_bk | apply th_ct | apply s_nil | apply s_set | apply s_par2 | apply s_seti | apply s_ife | apply s_ret | apply s_retN | apply s_exp | apply s_brk | apply s_cnt | apply s_pss | apply s_loop | apply rt_rt | apply rt_nx | apply wh_nx | apply wh_ct | apply wh_bk | apply wh_rt | apply w_int | apply w_non | apply w_bl | apply w_str | apply w_tup | apply w_lst | apply w_dct0 | apply es_nil | apply es_cons | apply w_bin | apply w_neg | apply w_cmp | apply w_chn | apply w_and | apply w_or | apply w_not | apply w_ife | apply w_idx | apply w_slc | apply w_rev | apply w_call | apply w_bi | apply w_isi | apply w_mth | apply w_lc | apply o_no | apply o_so | apply ts_nil | apply ts_cons | apply i_val | apply i_rng1 | apply i_rng2 | apply i_enu | apply i_zip | apply o_addI | apply o_subI | apply b_lenT | apply b_lenR | apply b_abs | apply b_intI | apply b_tupT | apply b_listT | apply l_tup | apply l_rol | apply bo_bl) | ((with_reducible apply s_augA); rfl) | ((with_reducible apply s_augS); rfl) | ((with_reducible apply w_var); rfl) | ((with_reducible apply w_glb); rfl) | ((with_reducible apply w_calk); rfl) | ((fail_if_success (with_reducible show ∃ k, opC .NotIn _ _ _ = some k ∧ _)); (fail_if_success (with_reducible show ∃ k, opC .In _ _ _ = some k ∧ _)); refine ⟨_, rfl, ?_⟩)))
    refine b_repr (rep_pure push_at pp (by decide) (by decide) (by rw [sizeLine_eq]; decide)) ?_
    (repeat (first | ((with_reducible show Wp (evSs _ _ (List.set _ _ _) _) _); simp only [List.set_cons_succ, List.set_cons_zero]) | with_reducible (first | apply s_cons | apply th_nx | apply th_rt | apply th_bk | apply th_ct | apply s_nil | apply s_set | apply s_par2 | apply s_seti | apply s_ife | apply s_ret | apply s_retN | apply s_exp | apply s_brk | apply s_cnt | apply s_pss | apply s_loop | apply rt_rt | apply rt_nx | apply wh_nx | apply wh_ct | apply wh_bk | apply wh_rt | apply w_int | apply w_non | apply w_bl | apply w_str | apply w_tup | apply w_lst | apply w_dct0 | apply es_nil | apply es_cons | apply w_bin | apply w_neg | apply w_cmp | apply w_chn | apply w_and | apply w_or | apply w_not | apply w_ife | apply w_idx | apply w_slc | apply w_rev | apply w_call | apply w_bi | apply w_isi | apply w_mth | apply w_lc | apply o_no | apply o_so | apply ts_nil | apply ts_cons | apply i_val | apply i_rng1 | apply i_rng2 | apply i_enu | apply i_zip | apply o_addI | apply o_subI | apply b_lenT | apply b_lenR | apply b_abs | apply b_intI | apply b_tupT | apply b_listT | apply l_tup | apply l_rol | apply bo_bl) | ((with_reducible apply s_augA); rfl) | ((with_reducible apply s_augS); rfl) | ((with_reducible apply w_var); rfl) | ((with_reducible apply w_glb); rfl) | ((with_reducible apply w_calk); rfl) | ((fail_if_success (with_reducible show ∃ k, opC .NotIn _ _ _ = some k ∧ _)); (fail_if_success (with_reducible show ∃ k, opC .In _ _ _ = some k ∧ _)); refine ⟨_, rfl, ?_⟩)))
    simp
end K01
def K01.lev : Nat := 10
theorem K01.law_true : ∀ ns : List Int, ns.length ≤ 63 → ∃ st, Iv.run K01.pr.pg K01.lev 18 [.rol (ns.map Iv.D.int)] [] = some (.bl true, st) := by
  intro ns hn
  obtain ⟨d, s, e, rfl⟩ := K01.law_ok (n := 5) hn
  exact ⟨s, e⟩
set_option Elab.async false
set_option linter.all false
set_option maxRecDepth 100000
set_option maxHeartbeats 8000000
open PySem PySem.W PyProof.Rows in
set_option maxRecDepth 100000 in
set_option maxHeartbeats 0 in
theorem PySem.Challenge.cw_cheapbymarks_k01_words_judged_holds : PySem.Challenge.rw_cheapbymarks_k01_words_judged.Holds := by
  w_on; o_law; k_head; (case hw => w_witness2)
  k_fill
  refine Iv.walk_iv (l := PySem.Challenge.rw_cheapbymarks_k01_words_judged) (p := K01.pr) (k := K01.lev) (j := 18) (r := K01.r18) (x := "script") rfl rfl ⟨rfl, by decide, by decide⟩ rfl rfl (fun w h Y => PySem.W.kIn_of Y) ?F K01.law_true
  case F =>
    intro w mg fa h KX G hmg
    refine' K01.all_mk KX G hmg ?a0 ?l0 ?c0 ?k0 ?a1 ?l1 ?c1 ?k1 ?a2 ?l2 ?c2 ?k2 ?a3 ?l3 ?c3 ?k3 ?a4 ?l4 ?c4 ?k4 ?a5 ?l5 ?c5 ?k5 ?a6 ?l6 ?c6 ?k6 ?a7 ?l7 ?c7 ?k7 ?a8 ?l8 ?c8 ?k8 ?a9 ?l9 ?c9 ?k9 ?a10 ?l10 ?c10 ?k10 ?a11 ?l11 ?c11 ?k11 ?a12 ?l12 ?c12 ?k12 ?a13 ?l13 ?c13 ?k13 ?a14 ?l14 ?c14 ?k14 ?a15 ?l15 ?c15 ?k15 ?a16 ?l16 ?c16 ?k16 ?a17 ?l17 ?c17 ?k17 ?a18 ?l18 ?c18 ?k18 ?z0 ?z1 ?z2 ?z3 ?z4 ?z5 ?z6 ?z7 ?z8 ?z9 ?z10 ?z11 ?glo0
    (case a0 => k_is)
    (case l0 => k_is)
    (case c0 => k_is)
    (case k0 => k_is)
    (case a1 => k_is)
    (case l1 => k_is)
    (case c1 => k_is)
    (case k1 => k_is)
    (case a2 => k_is)
    (case l2 => k_is)
    (case c2 => k_is)
    (case k2 => k_is)
    (case a3 => k_is)
    (case l3 => k_is)
    (case c3 => k_is)
    (case k3 => k_is)
    (case a4 => k_is)
    (case l4 => k_is)
    (case c4 => k_is)
    (case k4 => k_is)
    (case a5 => k_is)
    (case l5 => k_is)
    (case c5 => k_is)
    (case k5 => k_is)
    (case a6 => k_is)
    (case l6 => k_is)
    (case c6 => k_is)
    (case k6 => k_is)
    (case a7 => k_is)
    (case l7 => k_is)
    (case c7 => k_is)
    (case k7 => k_is)
    (case a8 => k_is)
    (case l8 => k_is)
    (case c8 => k_is)
    (case k8 => k_is)
    (case a9 => k_is)
    (case l9 => k_is)
    (case c9 => k_is)
    (case k9 => k_is)
    (case a10 => k_is)
    (case l10 => k_is)
    (case c10 => k_is)
    (case k10 => k_is)
    (case a11 => k_is)
    (case l11 => k_is)
    (case c11 => k_is)
    (case k11 => k_is)
    (case a12 => k_is)
    (case l12 => k_is)
    (case c12 => k_is)
    (case k12 => k_is)
    (case a13 => k_is)
    (case l13 => k_is)
    (case c13 => k_is)
    (case k13 => k_is)
    (case a14 => k_is)
    (case l14 => k_is)
    (case c14 => k_is)
    (case k14 => k_is)
    (case a15 => k_is)
    (case l15 => k_is)
    (case c15 => k_is)
    (case k15 => k_is)
    (case a16 => k_is)
    (case l16 => k_is)
    (case c16 => k_is)
    (case k16 => k_is)
    (case a17 => k_is)
    (case l17 => k_is)
    (case c17 => k_is)
    (case k17 => k_is)
    (case a18 => k_is)
    (case l18 => k_is)
    (case c18 => k_is)
    (case k18 => k_is)
    (case z0 => k_is)
    (case z1 => k_is)
    (case z2 => k_is)
    (case z3 => k_is)
    (case z4 => k_is)
    (case z5 => k_is)
    (case z6 => k_is)
    (case z7 => k_is)
    (case z8 => k_is)
    (case z9 => k_is)
    (case z10 => k_is)
    (case z11 => k_is)
    (case glo0 => k_is)
#print axioms PySem.Challenge.cw_cheapbymarks_k01_words_judged_holds
