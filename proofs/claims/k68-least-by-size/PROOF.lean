import PyProof.Rows.All
import Wide.All
import OpenK.AllK
import Wide.FinOn
import HandS.ForMost
import HandS.EndBits
import HandS.Wide
import HandS.Conv
import HandS.More
import HandS.TupLe
import HandS.TupAny
import HandS.TupMul
import HandS.Rev
import HandS.RevRange
import HandS.Flow
import HandS.Zip
import PySem.Challenge.RW_slotwise_k68_least_by_size
set_option Elab.async false
set_option linter.all false
set_option maxRecDepth 100000
set_option maxHeartbeats 8000000
/-! G: values by their data, mutable objects by places in a store; readings over these. -/
namespace G
open PySem PySem.Spec L2
inductive D where
  | non | bl (b : Bool) | int (i : Int) | str (x : Str) | tup (xs : List D) | frl (xs : List D) | loc (l : Nat)
inductive SO where
  | lst (xs : List D)
  | dic (kvs : List (Key × D))
  | dit (kvs : List (List Key × D))
  | ins (C : Addr) (fs : List (Str × D))
abbrev Sto := List SO
abbrev Sl := List (Option D)
/-- a list that nobody writes to -/
def FrL (K : PySem.W.Frag) (H : Hp) (a : Addr) (vs : List V) : Prop :=
  (∃ o, H a = some (.frz o (.lst vs))) ∨
    ∃ (o : Obj) (its : Array Value) (n : Nat), K.lookup a = some o ∧ (o.cls = .type "list" ∧ o.dict = none) ∧ o.data = .seq its n ∧ its.size ≤ sizeLine ∧ Vals vs its.toList
theorem FrL.seq {K : PySem.W.Frag} {H : Hp} {a : Addr} {vs : List V} (h : FrL K H a vs) : SqL K H a vs := by
  rcases h with ⟨o, h⟩ | ⟨o, its, n, h1, h2, h3⟩
  · exact .inl (.inr ⟨o, h⟩)
  · exact .inr ⟨o, its, n, h1, h2.1, h2.2, h3⟩
mutual
inductive VR (K : PySem.W.Frag) (ι : List Addr) (H : Hp) : D → V → Prop
  | non : VR K ι H .non .non
  | bl (b : Bool) : VR K ι H (.bl b) (.bl b)
  | int (i : Int) : VR K ι H (.int i) (.int i)
  | str (x : Str) : VR K ι H (.str x) (.str x)
  | tup {ds : List D} {p : Addr} {vs : List V} : SqT K H p vs → VRs K ι H ds vs → VR K ι H (.tup ds) (.ref p)
  | frl {ds : List D} {p : Addr} {vs : List V} : FrL K H p vs → VRs K ι H ds vs → VR K ι H (.frl ds) (.ref p)
  | loc {l : Nat} {a : Addr} : ι[l]? = some a → VR K ι H (.loc l) (.ref a)
inductive VRs (K : PySem.W.Frag) (ι : List Addr) (H : Hp) : List D → List V → Prop
  | nil : VRs K ι H [] []
  | cons {d : D} {v : V} {ds : List D} {vs : List V} : VR K ι H d v → VRs K ι H ds vs → VRs K ι H (d :: ds) (v :: vs)
end
/-- how places and heap may go on -/
structure Gr (K : PySem.W.Frag) (ι : List Addr) (H : Hp) (ι' : List Addr) (H' : Hp) : Prop where
  loc : ∀ (l : Nat) (a : Addr), ι[l]? = some a → ι'[l]? = some a
  tup : ∀ p vs, SqT K H p vs → SqT K H' p vs
  frl : ∀ p vs, FrL K H p vs → FrL K H' p vs
section
variable {K : PySem.W.Frag} {ι ι' ι2 : List Addr} {H H' H2 : Hp}
theorem Gr.refl : Gr K ι H ι H := ⟨fun _ _ h => h, fun _ _ h => h, fun _ _ h => h⟩
theorem Gr.trans (a : Gr K ι H ι' H') (b : Gr K ι' H' ι2 H2) : Gr K ι H ι2 H2 :=
  ⟨fun l x h => b.loc l x (a.loc l x h), fun p vs h => b.tup p vs (a.tup p vs h), fun p vs h => b.frl p vs (a.frl p vs h)⟩
mutual
theorem VR.gr (g : Gr K ι H ι' H') : ∀ {d : D} {v : V}, VR K ι H d v → VR K ι' H' d v
  | _, _, .non => .non
  | _, _, .bl b => .bl b
  | _, _, .int i => .int i
  | _, _, .str x => .str x
  | _, _, .tup h hs => .tup (g.tup _ _ h) (VRs.gr g hs)
  | _, _, .frl h hs => .frl (g.frl _ _ h) (VRs.gr g hs)
  | _, _, .loc h => .loc (g.loc _ _ h)
theorem VRs.gr (g : Gr K ι H ι' H') : ∀ {ds : List D} {vs : List V}, VRs K ι H ds vs → VRs K ι' H' ds vs
  | _, _, .nil => .nil
  | _, _, .cons h hs => .cons (VR.gr g h) (VRs.gr g hs)
end
theorem VRs.len : ∀ {ds : List D} {vs : List V}, VRs K ι H ds vs → ds.length = vs.length
  | _, _, .nil => rfl
  | _, _, .cons _ hs => congrArg (· + 1) hs.len
theorem VRs.get : ∀ {ds : List D} {vs : List V} {i : Nat} {d : D}, VRs K ι H ds vs → ds[i]? = some d → ∃ v, vs[i]? = some v ∧ VR K ι H d v
  | _, _, _, _, .nil, e => by simp at e
  | _, _, 0, _, .cons h _, e => by
    have e' := Option.some.inj e
    subst e'
    exact ⟨_, rfl, h⟩
  | _, _, i + 1, d, .cons _ hs, e => hs.get (i := i) e
theorem VRs.getV : ∀ {ds : List D} {vs : List V} {i : Nat} {v : V}, VRs K ι H ds vs → vs[i]? = some v → ∃ d, ds[i]? = some d ∧ VR K ι H d v
  | _, _, _, _, .nil, e => by simp at e
  | _, _, 0, _, .cons h _, e => by
    have e' := Option.some.inj e
    subst e'
    exact ⟨_, rfl, h⟩
  | _, _, i + 1, d, .cons _ hs, e => hs.getV (i := i) e
theorem VRs.app : ∀ {ds es : List D} {vs us : List V}, VRs K ι H ds vs → VRs K ι H es us → VRs K ι H (ds ++ es) (vs ++ us)
  | _, _, _, _, .nil, h => h
  | _, _, _, _, .cons h hs, h2 => .cons h (hs.app h2)
theorem VRs.take : ∀ {ds : List D} {vs : List V} (n : Nat), VRs K ι H ds vs → VRs K ι H (ds.take n) (vs.take n)
  | _, _, 0, _ => .nil
  | _, _, _ + 1, .nil => .nil
  | _, _, n + 1, .cons h hs => .cons h (hs.take n)
theorem VRs.drop : ∀ {ds : List D} {vs : List V} (n : Nat), VRs K ι H ds vs → VRs K ι H (ds.drop n) (vs.drop n)
  | _, _, 0, h => h
  | _, _, _ + 1, .nil => .nil
  | _, _, n + 1, .cons _ hs => hs.drop n
theorem VRs.set {d : D} {v : V} (r : VR K ι H d v) : ∀ {ds : List D} {vs : List V} (i : Nat), VRs K ι H ds vs → VRs K ι H (ds.set i d) (vs.set i v)
  | _, _, _, .nil => .nil
  | _, _, 0, .cons _ hs => .cons r hs
  | _, _, i + 1, .cons h hs => .cons h (hs.set r i)
theorem VRs.rev : ∀ {ds : List D} {vs : List V}, VRs K ι H ds vs → VRs K ι H ds.reverse vs.reverse
  | _, _, .nil => .nil
  | _, _, .cons h hs => by
    rw [List.reverse_cons, List.reverse_cons]
    exact hs.rev.app (.cons h .nil)
theorem VRs.dropLast {ds : List D} {vs : List V} (h : VRs K ι H ds vs) : VRs K ι H ds.dropLast vs.dropLast := by
  rw [List.dropLast_eq_take, List.dropLast_eq_take, h.len]
  exact h.take _
theorem VRs.rep {d : D} {v : V} (r : VR K ι H d v) : ∀ n : Nat, VRs K ι H (List.replicate n d) (List.replicate n v)
  | 0 => .nil
  | n + 1 => .cons r (VRs.rep r n)
def PR {κ : Type} (K : PySem.W.Frag) (ι : List Addr) (H : Hp) : List (κ × D) → List (κ × V) → Prop := Paired fun (p : κ × D) (q : κ × V) => p.1 = q.1 ∧ VR K ι H p.2 q.2
theorem PR.gr {κ : Type} (g : Gr K ι H ι' H') {xs : List (κ × D)} {ys : List (κ × V)} (h : PR K ι H xs ys) : PR K ι' H' xs ys := Paired.mapP h fun _ _ z => ⟨z.1, z.2.gr g⟩
theorem PR.keys {κ : Type} : ∀ {xs : List (κ × D)} {ys : List (κ × V)}, PR K ι H xs ys → xs.map (·.1) = ys.map (·.1)
  | _, _, .nil => rfl
  | _, _, .cons r t => by
    rw [List.map_cons, List.map_cons, r.1, PR.keys t]
def OR (K : PySem.W.Frag) (ι : List Addr) (H : Hp) (a : Addr) : SO → Prop
  | .lst ds => ∃ vs, H a = some (.lst vs) ∧ VRs K ι H ds vs
  | .dic kvs => ∃ ks, H a = some (.dK ks) ∧ PR K ι H kvs ks
  | .dit kvs => ∃ ks, H a = some (.dT ks) ∧ PR K ι H kvs ks
  | .ins C fs => ∃ dx gs, H a = some (.ins C dx gs) ∧ H dx = some (.own a) ∧ PR K ι H fs gs
structure SR (K : PySem.W.Frag) (ι : List Addr) (H : Hp) (S : Sto) : Prop where
  len : ι.length = S.length
  nd : ι.Nodup
  at_ : ∀ (l : Nat) (o : SO), S[l]? = some o → ∃ a, ι[l]? = some a ∧ OR K ι H a o
theorem OR.some {a : Addr} {o : SO} (h : OR K ι H a o) : ∃ u, H a = some u ∧ Mut (some u) := by
  cases o with
  | lst ds => obtain ⟨vs, e, _⟩ := h; exact ⟨_, e, trivial⟩
  | dic ds => obtain ⟨vs, e, _⟩ := h; exact ⟨_, e, trivial⟩
  | dit ds => obtain ⟨vs, e, _⟩ := h; exact ⟨_, e, trivial⟩
  | ins C ds => obtain ⟨dx, vs, e, _⟩ := h; exact ⟨_, e, trivial⟩
theorem nodup_ix' {α : Type} {N : List α} (hN : N.Nodup) {i j : Nat} {x : α} (a : N[i]? = Option.some x) (b : N[j]? = Option.some x) : i = j := by
  obtain ⟨h1, e1⟩ := List.getElem?_eq_some_iff.mp a
  have h3 := List.getElem?_eq_some_iff.mp b
  obtain ⟨h2, e2⟩ := h3
  exact (List.getElem_inj hN).mp (e1.trans e2.symm)
/-- the object stands as it stood -/
theorem OR.keep {a : Addr} {o : SO} (h : OR K ι H a o) (g : Gr K ι H ι' H') (e1 : H' a = H a) (e2 : ∀ dx, H dx = Option.some (.own a) → H' dx = H dx) : OR K ι' H' a o := by
  cases o with
  | lst ds => obtain ⟨vs, e, r⟩ := h; exact ⟨_, e1.trans e, r.gr g⟩
  | dic ds => obtain ⟨vs, e, r⟩ := h; exact ⟨_, e1.trans e, r.gr g⟩
  | dit ds => obtain ⟨vs, e, r⟩ := h; exact ⟨_, e1.trans e, r.gr g⟩
  | ins C ds => obtain ⟨dx, vs, e, e', r⟩ := h; exact ⟨_, _, e1.trans e, (e2 dx e').trans e', r.gr g⟩
theorem rd_upd {a p : Addr} {u o : HO} (h : Rd H p u) (n : ∀ x, H p = Option.some x → p ≠ a) : Rd (upd H a o) p u := by
  rcases h with h | ⟨x, h⟩
  · exact .inl (by rw [upd_ne (n _ h)]; exact h)
  · exact .inr ⟨x, by rw [upd_ne (n _ h)]; exact h⟩
/-- what is read stays -/
theorem Gr.wr {a : Addr} {o : HO} (hl : ∀ (l : Nat) (x : Addr), ι[l]? = Option.some x → ι'[l]? = Option.some x) (hn : H a = none ∨ Mut (H a)) : Gr K ι H ι' (upd H a o) := by
  have nt : ∀ p vs, H p = Option.some (.tup vs) → p ≠ a := fun p vs h e => by
    subst e
    rcases hn with q | q <;> rw [h] at q
    · cases q
    · exact q
  have nf : ∀ p o u, H p = Option.some (.frz o u) → p ≠ a := fun p o u h e => by
    subst e
    rcases hn with q | q <;> rw [h] at q
    · cases q
    · exact q
  refine ⟨hl, fun p vs h => ?_, fun p vs h => ?_⟩
  · rcases h with (h | ⟨x, h⟩) | h
    · exact .inl (.inl (by rw [upd_ne (nt _ _ h)]; exact h))
    · exact .inl (.inr ⟨x, by rw [upd_ne (nf _ _ _ h)]; exact h⟩)
    · exact .inr h
  · rcases h with ⟨x, h⟩ | h
    · exact .inl ⟨x, by rw [upd_ne (nf _ _ _ h)]; exact h⟩
    · exact .inr h
theorem Gr.fresh {a : Addr} {o : HO} (hn : H a = none) : Gr K ι H ι (upd H a o) := .wr (fun _ _ h => h) (.inl hn)
theorem ix_app {α : Type} {l : List α} {x : α} {i : Nat} {y : α} (h : l[i]? = Option.some y) : (l ++ [x])[i]? = Option.some y := by
  rw [List.getElem?_append_left (List.getElem?_eq_some_iff.mp h).1]
  exact h
theorem Gr.grown {a : Addr} {o : HO} (hn : H a = none) : Gr K ι H (ι ++ [a]) (upd H a o) := .wr (fun _ _ h => ix_app h) (.inl hn)
theorem Gr.written {a : Addr} {o : HO} (hn : Mut (H a)) : Gr K ι H ι (upd H a o) := .wr (fun _ _ h => h) (.inr hn)
section
variable {S : Sto}
theorem SR.get (r : SR K ι H S) {l : Nat} {o : SO} (e : S[l]? = Option.some o) : ∃ a, ι[l]? = Option.some a ∧ OR K ι H a o := r.at_ l o e
/-- a thing that no place has -/
theorem SR.free (r : SR K ι H S) {a : Addr} (h : H a = none) : a ∉ ι := fun hm => by
  obtain ⟨l, e⟩ := List.mem_iff_getElem?.mp hm
  have hl : l < S.length := by rw [← r.len]; exact (List.getElem?_eq_some_iff.mp e).1
  obtain ⟨b, e2, o⟩ := r.at_ l S[l] (List.getElem?_eq_getElem hl)
  rw [e] at e2
  cases e2
  obtain ⟨u, q, _⟩ := o.some
  rw [h] at q
  cases q
/-- a new thing that has no place (a tuple) -/
theorem SR.laid (r : SR K ι H S) {a : Addr} {o : HO} (h : H a = none) : SR K ι (upd H a o) S := by
  refine ⟨r.len, r.nd, fun l u e => ?_⟩
  obtain ⟨b, e2, q⟩ := r.at_ l u e
  obtain ⟨v, hv, _⟩ := q.some
  refine ⟨b, e2, q.keep (.fresh h) (upd_ne (ne_of_none hv h)) fun dx hd => upd_ne (ne_of_none hd h)⟩
/-- a new object with a place -/
theorem SR.new (r : SR K ι H S) {a : Addr} {u : HO} {o : SO} (h : H a = none) (q : OR K (ι ++ [a]) (upd H a u) a o) : SR K (ι ++ [a]) (upd H a u) (S ++ [o]) := by
  refine ⟨by rw [List.length_append, List.length_append, r.len]; rfl, ?_, fun l x e => ?_⟩
  · refine List.nodup_append.mpr ⟨r.nd, List.nodup_cons.mpr ⟨List.not_mem_nil, List.nodup_nil⟩, fun x hx y hy e => ?_⟩
    rw [List.mem_singleton.mp hy] at e
    exact r.free h (e ▸ hx)
  · by_cases hl : l < S.length
    · rw [List.getElem?_append_left hl] at e
      obtain ⟨b, e2, q2⟩ := r.at_ l x e
      obtain ⟨v, hv, _⟩ := q2.some
      exact ⟨b, ix_app e2, q2.keep (.grown h) (upd_ne (ne_of_none hv h)) fun dx hd => upd_ne (ne_of_none hd h)⟩
    · have hl2 : l = S.length := by
        have := (List.getElem?_eq_some_iff.mp e).1
        rw [List.length_append] at this
        have : l < S.length + 1 := this
        omega
      subst hl2
      rw [List.getElem?_append_right (Nat.le_refl _), Nat.sub_self] at e
      cases e
      refine ⟨a, ?_, q⟩
      rw [← r.len, List.getElem?_append_right (Nat.le_refl _), Nat.sub_self]
      rfl
/-- an object is written -/
theorem SR.put (r : SR K ι H S) {l : Nat} {a : Addr} {u : HO} {o : SO} (hl : ι[l]? = Option.some a) (hm : Mut (H a)) (q : OR K ι (upd H a u) a o) : SR K ι (upd H a u) (S.set l o) := by
  refine ⟨by rw [List.length_set]; exact r.len, r.nd, fun i x e => ?_⟩
  by_cases hi : i = l
  · subst hi
    have hs : i < S.length := by rw [← r.len]; exact (List.getElem?_eq_some_iff.mp hl).1
    rw [List.getElem?_set_self hs] at e
    cases e
    exact ⟨a, hl, q⟩
  · rw [List.getElem?_set_ne (Ne.symm hi)] at e
    obtain ⟨b, e2, q2⟩ := r.at_ i x e
    have hb : b ≠ a := fun z => by
      subst z
      exact hi (nodup_ix' r.nd e2 hl)
    refine ⟨b, e2, q2.keep (.written hm) (upd_ne hb) fun dx hd => upd_ne fun z => ?_⟩
    subst z
    rw [hd] at hm
    exact hm
end
/-! ### closedness: a datum mentions only the places of a store -/
mutual
def Cl (n : Nat) : D → Bool
  | .tup ds => Cls n ds
  | .frl ds => Cls n ds
  | .loc l => decide (l < n)
  | _ => true
def Cls (n : Nat) : List D → Bool
  | [] => true
  | d :: ds => Cl n d && Cls n ds
end
def ClO (n : Nat) : SO → Bool
  | .lst ds => Cls n ds
  | .dic kvs => kvs.all fun p => Cl n p.2
  | .dit kvs => kvs.all fun p => Cl n p.2
  | .ins _ fs => fs.all fun p => Cl n p.2
def ClS (S : Sto) : Prop := ∀ o ∈ S, ClO S.length o = true
section
variable {S S' g : Sto}
mutual
theorem VR.cl {n : Nat} (hn : ι.length ≤ n) : ∀ {d : D} {v : V}, VR K ι H d v → Cl n d = true
  | _, _, .non => rfl
  | _, _, .bl _ => rfl
  | _, _, .int _ => rfl
  | _, _, .str _ => rfl
  | _, _, .tup _ hs => by unfold Cl; exact VRs.cl hn hs
  | _, _, .frl _ hs => by unfold Cl; exact VRs.cl hn hs
  | _, _, .loc h => by unfold Cl; exact decide_eq_true (Nat.lt_of_lt_of_le (List.getElem?_eq_some_iff.mp h).1 hn)
theorem VRs.cl {n : Nat} (hn : ι.length ≤ n) : ∀ {ds : List D} {vs : List V}, VRs K ι H ds vs → Cls n ds = true
  | _, _, .nil => rfl
  | _, _, .cons h hs => by unfold Cls; rw [VR.cl hn h, VRs.cl hn hs]; rfl
end
mutual
theorem VR.cut {n : Nat} : ∀ {d : D} {v : V}, VR K ι H d v → Cl n d = true → VR K (ι.take n) H d v
  | _, _, .non, _ => .non
  | _, _, .bl b, _ => .bl b
  | _, _, .int i, _ => .int i
  | _, _, .str x, _ => .str x
  | _, _, .tup h hs, c => .tup h (VRs.cut hs (by unfold Cl at c; exact c))
  | _, _, .frl h hs, c => .frl h (VRs.cut hs (by unfold Cl at c; exact c))
  | _, _, .loc h, c => .loc (by
    unfold Cl at c
    rw [List.getElem?_take_of_lt (of_decide_eq_true c)]
    exact h)
theorem VRs.cut {n : Nat} : ∀ {ds : List D} {vs : List V}, VRs K ι H ds vs → Cls n ds = true → VRs K (ι.take n) H ds vs
  | _, _, .nil, _ => .nil
  | _, _, .cons h hs, c => by
    unfold Cls at c
    rw [Bool.and_eq_true] at c
    exact .cons (VR.cut h c.1) (VRs.cut hs c.2)
end
theorem PR.cl {κ : Type} {n : Nat} (hn : ι.length ≤ n) : ∀ {xs : List (κ × D)} {ys : List (κ × V)}, PR K ι H xs ys → (xs.all fun p => Cl n p.2) = true
  | _, _, .nil => rfl
  | _, _, .cons r t => by rw [List.all_cons, r.2.cl hn, PR.cl hn t]; rfl
theorem PR.cut {κ : Type} {n : Nat} : ∀ {xs : List (κ × D)} {ys : List (κ × V)}, PR K ι H xs ys → (xs.all fun p => Cl n p.2) = true → PR K (ι.take n) H xs ys
  | _, _, .nil, _ => .nil
  | _, _, .cons r t, c => by
    rw [List.all_cons, Bool.and_eq_true] at c
    exact .cons ⟨r.1, r.2.cut c.1⟩ (PR.cut t c.2)
theorem OR.cl {n : Nat} (hn : ι.length ≤ n) {a : Addr} {o : SO} (h : OR K ι H a o) : ClO n o = true := by
  cases o with
  | lst ds => obtain ⟨vs, _, r⟩ := h; exact r.cl hn
  | dic ds => obtain ⟨vs, _, r⟩ := h; exact r.cl hn
  | dit ds => obtain ⟨vs, _, r⟩ := h; exact r.cl hn
  | ins C ds => obtain ⟨_, vs, _, _, r⟩ := h; exact r.cl hn
theorem OR.cut {n : Nat} {a : Addr} {o : SO} (h : OR K ι H a o) (c : ClO n o = true) : OR K (ι.take n) H a o := by
  cases o with
  | lst ds => obtain ⟨vs, e, r⟩ := h; exact ⟨vs, e, r.cut c⟩
  | dic ds => obtain ⟨vs, e, r⟩ := h; exact ⟨vs, e, r.cut c⟩
  | dit ds => obtain ⟨vs, e, r⟩ := h; exact ⟨vs, e, r.cut c⟩
  | ins C ds => obtain ⟨dx, vs, e, e2, r⟩ := h; exact ⟨dx, vs, e, e2, r.cut c⟩
theorem SR.cl (r : SR K ι H S) : ClS S := fun o ho => by
  obtain ⟨l, e⟩ := List.mem_iff_getElem?.mp ho
  obtain ⟨a, _, q⟩ := r.at_ l o e
  exact q.cl (Nat.le_of_eq r.len)
/-- what nobody names any more is dropped -/
theorem SR.cut (r : SR K ι H (S ++ g)) (c : ClS S) : SR K (ι.take S.length) H S := by
  have hl : ι.length = S.length + g.length := by rw [r.len, List.length_append]
  refine ⟨by rw [List.length_take]; omega, r.nd.sublist (List.take_sublist _ _), fun l o e => ?_⟩
  have h1 := (List.getElem?_eq_some_iff.mp e).1
  obtain ⟨a, e2, q⟩ := r.at_ l o (by rw [List.getElem?_append_left h1]; exact e)
  exact ⟨a, by rw [List.getElem?_take_of_lt h1]; exact e2, q.cut (c o (List.mem_of_getElem? e))⟩
theorem Gr.cut {n : Nat} (h : Gr K ι H ι' H') (hn : ι.length ≤ n) : Gr K ι H (ι'.take n) H' :=
  ⟨fun l a e => by
    rw [List.getElem?_take_of_lt (Nat.lt_of_lt_of_le (List.getElem?_eq_some_iff.mp e).1 hn)]
    exact h.loc l a e, h.tup, h.frl⟩
end
/-! ### slots -/
def LR (K : PySem.W.Frag) (ι : List Addr) (H : Hp) (γ : Sl) (σ : St) : Prop := γ.length = σ.length ∧ ∀ (i : Nat) (d : D), γ[i]? = some (some d) → ∃ v, σ[i]? = some (some v) ∧ VR K ι H d v
section
variable {γ : Sl} {σ : St}
theorem LR.gr (r : LR K ι H γ σ) (g : Gr K ι H ι' H') : LR K ι' H' γ σ := ⟨r.1, fun i d e => let ⟨v, h1, h2⟩ := r.2 i d e; ⟨v, h1, h2.gr g⟩⟩
theorem LR.set (r : LR K ι H γ σ) {d : D} {v : V} (h : VR K ι H d v) (i : Nat) : LR K ι H (γ.set i (some d)) (σ.set i (some v)) := by
  refine ⟨by rw [List.length_set, List.length_set]; exact r.1, fun j e he => ?_⟩
  by_cases hj : i = j
  · subst hj
    by_cases hi : i < γ.length
    · rw [List.getElem?_set_self hi] at he
      cases he
      exact ⟨v, List.getElem?_set_self (by rw [← r.1]; exact hi), h⟩
    · rw [List.getElem?_eq_none (by rw [List.length_set]; omega)] at he
      cases he
  · rw [List.getElem?_set_ne hj] at he ⊢
    exact r.2 j e he
/-- the slots of a block's own names forgotten -/
def wip (γ : Sl) : List Nat → Sl
  | [] => γ
  | v :: vs => (wip γ vs).set v none
theorem LR.none (r : LR K ι H γ σ) (i : Nat) : LR K ι H (γ.set i Option.none) (σ.set i Option.none) := by
  refine ⟨by rw [List.length_set, List.length_set]; exact r.1, fun j e he => ?_⟩
  by_cases hj : i = j
  · subst hj
    by_cases hi : i < γ.length
    · rw [List.getElem?_set_self hi] at he
      cases he
    · rw [List.getElem?_eq_none (by rw [List.length_set]; omega)] at he
      cases he
  · rw [List.getElem?_set_ne hj] at he ⊢
    exact r.2 j e he
theorem LR.wip (r : LR K ι H γ σ) : ∀ vs : List Nat, LR K ι H (G.wip γ vs) (wipe σ vs)
  | [] => r
  | v :: vs => (r.wip vs).none v
end
/-! ### readings over data, and the judgements -/
abbrev GT (α : Type) := Sl → Sto → (α → Sto → Prop) → Prop
structure GEnds where
  nx : Sl → Sto → Prop
  rt : D → Sto → Prop
  bk : Sl → Sto → Prop := fun _ _ => False
  ct : Sl → Sto → Prop := fun _ _ => False
abbrev GTS := GEnds → Sl → Sto → Prop
def Mono {α : Type} (g : GT α) : Prop := ∀ γ S (Q Q' : α → Sto → Prop), (∀ d S', Q d S' → Q' d S') → g γ S Q → g γ S Q'
structure GEnds.Le (A B : GEnds) : Prop where
  nx : ∀ γ S, A.nx γ S → B.nx γ S
  rt : ∀ d S, A.rt d S → B.rt d S
  bk : ∀ γ S, A.bk γ S → B.bk γ S
  ct : ∀ γ S, A.ct γ S → B.ct γ S
def MonoS (g : GTS) : Prop := ∀ γ S (A B : GEnds), A.Le B → g A γ S → g B γ S
/-- behind a value: places and heap have gone on, the store is S', the value stands for d -/
def Aft (K : PySem.W.Frag) (ι : List Addr) (H : Hp) (Q : VK) (d : D) (S' : Sto) : Prop := ∀ ι' H' v, Gr K ι H ι' H' → SR K ι' H' S' → VR K ι' H' d v → Q v H'
def AftB (K : PySem.W.Frag) (ι : List Addr) (H : Hp) (Q : Bool → Hp → Prop) (b : Bool) (S' : Sto) : Prop := ∀ ι' H', Gr K ι H ι' H' → SR K ι' H' S' → Q b H'
def AftL (K : PySem.W.Frag) (ι : List Addr) (H : Hp) (Q : List V → Hp → Prop) (ds : List D) (S' : Sto) : Prop := ∀ ι' H' vs, Gr K ι H ι' H' → SR K ι' H' S' → VRs K ι' H' ds vs → Q vs H'
def AftS (K : PySem.W.Frag) (ι : List Addr) (H : Hp) (Q : St → Hp → Prop) (γ' : Sl) (S' : Sto) : Prop := ∀ ι' H' σ', Gr K ι H ι' H' → SR K ι' H' S' → LR K ι' H' γ' σ' → Q σ' H'
def AftE (K : PySem.W.Frag) (ι : List Addr) (H : Hp) (E : Ends) : GEnds := ⟨AftS K ι H E.nx, Aft K ι H E.rt, AftS K ι H E.bk, AftS K ι H E.ct⟩
def lo (K : PySem.W.Frag) (g : GT D) : TE := fun σ H Q => ∃ ι γ S, LR K ι H γ σ ∧ SR K ι H S ∧ g γ S (Aft K ι H Q)
def loB (K : PySem.W.Frag) (g : GT Bool) : TT := fun σ H Q => ∃ ι γ S, LR K ι H γ σ ∧ SR K ι H S ∧ g γ S (AftB K ι H Q)
def loL (K : PySem.W.Frag) (g : GT (List D)) : TA := fun σ H Q => ∃ ι γ S, LR K ι H γ σ ∧ SR K ι H S ∧ g γ S (AftL K ι H Q)
def loS (K : PySem.W.Frag) (g : GTS) : TS := fun E σ H => ∃ ι γ S, LR K ι H γ σ ∧ SR K ι H S ∧ g (AftE K ι H E) γ S
structure GE (X : Cx) (e : Expr) (g : GT D) : Prop where
  mono : Mono g
  run : PE X e (lo X.K g)
structure GB (X : Cx) (e : Expr) (g : GT Bool) : Prop where
  mono : Mono g
  run : PT X e (loB X.K g)
structure GA (X : Cx) (es : List Expr) (g : GT (List D)) : Prop where
  mono : Mono g
  run : PA X es (loL X.K g)
structure GS (X : Cx) (st : Stmt) (g : GTS) : Prop where
  mono : MonoS g
  run : PS X st (loS X.K g)
structure GSs (X : Cx) (st : List Stmt) (g : GTS) : Prop where
  mono : MonoS g
  run : PSs X st (loS X.K g)
/-- a reading of the layer below by one that says less -/
theorem pe_le {X : Cx} {e : Expr} {t t' : TE} (h : PE X e t) (i : ∀ σ H Q, t' σ H Q → t σ H Q) : PE X e t' := ⟨fun p s σ H Q I q => h.run p s σ H Q I (i _ _ _ q)⟩
theorem pt_le {X : Cx} {e : Expr} {t t' : TT} (h : PT X e t) (i : ∀ σ H Q, t' σ H Q → t σ H Q) : PT X e t' := ⟨fun p s σ H Q I q => h.run p s σ H Q I (i _ _ _ q)⟩
theorem pa_le {X : Cx} {e : List Expr} {t t' : TA} (h : PA X e t) (i : ∀ σ H Q, t' σ H Q → t σ H Q) : PA X e t' := ⟨fun o p s σ H Q I q => h.run o p s σ H Q I (i _ _ _ q)⟩
theorem ps_le {X : Cx} {e : Stmt} {t t' : TS} (h : PS X e t) (i : ∀ D σ H, t' D σ H → t D σ H) : PS X e t' := ⟨fun p s σ H D I q => h.run p s σ H D I (i _ _ _ q)⟩
theorem pss_le {X : Cx} {e : List Stmt} {t t' : TS} (h : PSs X e t) (i : ∀ D σ H, t' D σ H → t D σ H) : PSs X e t' := ⟨fun p s σ H D I q => h.run p s σ H D I (i _ _ _ q)⟩
end
end G
namespace G
open PySem PySem.Spec L2
section
variable {X : Cx}
theorem Aft.gr {K : PySem.W.Frag} {ι ι' : List Addr} {H H' : Hp} {Q : VK} {d : D} {S' : Sto} (h : Aft K ι H Q d S') (g : Gr K ι H ι' H') : Aft K ι' H' Q d S' := fun i h' v g2 => h i h' v (g.trans g2)
theorem AftB.gr {K : PySem.W.Frag} {ι ι' : List Addr} {H H' : Hp} {Q : Bool → Hp → Prop} {d : Bool} {S' : Sto} (h : AftB K ι H Q d S') (g : Gr K ι H ι' H') : AftB K ι' H' Q d S' := fun i h' g2 => h i h' (g.trans g2)
theorem AftL.gr {K : PySem.W.Frag} {ι ι' : List Addr} {H H' : Hp} {Q : List V → Hp → Prop} {d : List D} {S' : Sto} (h : AftL K ι H Q d S') (g : Gr K ι H ι' H') : AftL K ι' H' Q d S' := fun i h' v g2 => h i h' v (g.trans g2)
theorem AftS.gr {K : PySem.W.Frag} {ι ι' : List Addr} {H H' : Hp} {Q : L2.St → Hp → Prop} {γ : Sl} {S' : Sto} (h : AftS K ι H Q γ S') (g : Gr K ι H ι' H') : AftS K ι' H' Q γ S' := fun i h' v g2 => h i h' v (g.trans g2)
theorem AftE.gr {K : PySem.W.Frag} {ι ι' : List Addr} {H H' : Hp} {E : Ends} (g : Gr K ι H ι' H') : (AftE K ι H E).Le (AftE K ι' H' E) :=
  ⟨fun _ _ h => h.gr g, fun _ _ h => h.gr g, fun _ _ h => h.gr g, fun _ _ h => h.gr g⟩
theorem GEnds.Le.refl {A : GEnds} : A.Le A := ⟨fun _ _ h => h, fun _ _ h => h, fun _ _ h => h, fun _ _ h => h⟩
/-! ### names, constants -/
def gVar (i : Nat) : GT D := fun γ S Q => match γ[i]? with
  | some (some d) => Q d S
  | _ => False
theorem ge_var {i : Nat} {e : Expr} (h : PE X e (tVar i)) : GE X e (gVar i) := by
  refine ⟨fun γ S Q Q' hq q => ?_, pe_le h fun σ H Q q => ?_⟩
  · unfold gVar at q ⊢
    split at q
    · exact hq _ _ q
    · exact q
  · obtain ⟨ι, γ, S, rl, rs, q⟩ := q
    unfold gVar at q
    split at q
    · rename_i d e
      obtain ⟨v, h1, h2⟩ := rl.2 i d e
      exact ⟨v, h1, q ι H v .refl rs h2⟩
    · exact q.elim
def gC (d : D) : GT D := fun _ S Q => Q d S
theorem ge_c {d : D} {v : V} {e : Expr} (h : PE X e (tC v)) (hv : ∀ ι H, VR X.K ι H d v) : GE X e (gC d) :=
  ⟨fun _ S _ _ hq q => hq _ S q, pe_le h fun σ H Q ⟨ι, γ, S, rl, rs, q⟩ => q ι H v .refl rs (hv ι H)⟩
theorem ge_int {i : Int} {j pos} : GE X (.Constant (.int i) j pos) (gC (.int i)) := ge_c pe_int fun _ _ => .int _
theorem ge_bl {b : Bool} {j pos} : GE X (.Constant (.bool b) j pos) (gC (.bl b)) := ge_c pe_bl fun _ _ => .bl _
theorem ge_non {j pos} : GE X (.Constant .none j pos) (gC .non) := ge_c pe_non fun _ _ => .non
theorem ge_str {x : Str} {j pos} : GE X (.Constant (.str x) j pos) (gC (.str x)) := ge_c pe_str fun _ _ => .str _
theorem ge_glob {x : Str} {d : D} {v : V} {u : Value} {pos : Pos} (hg : Gl X x) (hm : X.mg x = some u) (r : RelV v u) (hv : ∀ ι H, VR X.K ι H d v) (hd : (x == ("__debug__" : Str)) = false := by decide) : GE X (.Name x pos) (gC d) := ge_c (pe_glob hg hm r hd) hv
/-! ### operators by values -/
abbrev F1 := D → Sto → (D → Sto → Prop) → Prop
abbrev F2 := D → D → Sto → (D → Sto → Prop) → Prop
abbrev FL := List D → Sto → (D → Sto → Prop) → Prop
def Mono1 (f : F1) : Prop := ∀ x S (Q Q' : D → Sto → Prop), (∀ d S', Q d S' → Q' d S') → f x S Q → f x S Q'
def Mono2 (f : F2) : Prop := ∀ x y S (Q Q' : D → Sto → Prop), (∀ d S', Q d S' → Q' d S') → f x y S Q → f x y S Q'
def MonoL (f : FL) : Prop := ∀ xs S (Q Q' : D → Sto → Prop), (∀ d S', Q d S' → Q' d S') → f xs S Q → f xs S Q'
def lo1 (K : PySem.W.Frag) (f : F1) : V → Hp → VK → Prop := fun v H Q => ∃ ι S x, SR K ι H S ∧ VR K ι H x v ∧ f x S (Aft K ι H Q)
def lo2 (K : PySem.W.Frag) (f : F2) : R2 := fun v u H Q => ∃ ι S x y, SR K ι H S ∧ VR K ι H x v ∧ VR K ι H y u ∧ f x y S (Aft K ι H Q)
def loF (K : PySem.W.Frag) (f : FL) : List V → Hp → VK → Prop := fun vs H Q => ∃ ι S xs, SR K ι H S ∧ VRs K ι H xs vs ∧ f xs S (Aft K ι H Q)
structure GO (X : Cx) (sem : Value → Value → Sem Value) (f : F2) : Prop where
  mono : Mono2 f
  run : OpR X sem (lo2 X.K f)
structure GU (X : Cx) (sem : Value → Sem Value) (f : F1) : Prop where
  mono : Mono1 f
  run : UnR X sem (lo1 X.K f)
structure GC (X : Cx) (fv : Value) (f : FL) : Prop where
  mono : MonoL f
  run : CallR X fv (loF X.K f)
def gBin (f : F2) (ga gb : GT D) : GT D := fun γ S Q => ga γ S fun x S1 => gb γ S1 fun y S2 => f x y S2 Q
section
variable {a b c : Expr} {ga gb gc : GT D} {pos : Pos} {f : F2}
theorem mono_bin (hf : Mono2 f) (ha : Mono ga) (hb : Mono gb) : Mono (gBin f ga gb) := fun γ S Q Q' hq q =>
  ha γ S _ _ (fun x S1 q1 => hb γ S1 _ _ (fun y S2 q2 => hf x y S2 Q Q' hq q2) q1) q
theorem lo_bin (hf : Mono2 f) (ha : Mono ga) (hb : Mono gb) {σ : L2.St} {H : Hp} {Q : VK} (q : lo X.K (gBin f ga gb) σ H Q) : tOp (lo2 X.K f) (lo X.K ga) (lo X.K gb) σ H Q := by
  obtain ⟨ι, γ, S, rl, rs, q⟩ := q
  exact ⟨ι, γ, S, rl, rs, ha γ S _ _ (fun x S1 q1 ι1 H1 v g1 r1 vx => ⟨ι1, γ, S1, rl.gr g1, r1, hb γ S1 _ _ (fun y S2 q2 ι2 H2 u g2 r2 vy => ⟨ι2, S2, x, y, r2, vx.gr g2, vy, hf x y S2 _ _ (fun d S' q => q.gr (g1.trans g2)) q2⟩) q1⟩) q⟩
theorem ge_bin {op : Operator} (ho : GO X (binaryOp op) f) (ha : GE X a ga) (hb : GE X b gb) : GE X (.BinOp a op b pos) (gBin f ga gb) :=
  ⟨mono_bin ho.mono ha.mono hb.mono, pe_le (pe_op ho.run ha.run hb.run) fun _ _ _ => lo_bin ho.mono ha.mono hb.mono⟩
theorem ge_cmp {op : CmpOp} (ho : GO X (compareOp op) f) (ha : GE X a ga) (hb : GE X b gb) (hm : behindInMarks op b = false) : GE X (.Compare a [op] [b] pos) (gBin f ga gb) :=
  ⟨mono_bin ho.mono ha.mono hb.mono, pe_le (pe_cmpR ho.run ha.run hb.run hm) fun _ _ _ => lo_bin ho.mono ha.mono hb.mono⟩
def gUn (f : F1) (ga : GT D) : GT D := fun γ S Q => ga γ S fun x S1 => f x S1 Q
theorem ge_un {op : UnaryOp} {f : F1} (ho : GU X (unaryOp op) f) (ha : GE X a ga) : GE X (.UnaryOp op a pos) (gUn f ga) :=
  ⟨fun γ S Q Q' hq q => ha.mono γ S _ _ (fun x S1 q1 => ho.mono x S1 Q Q' hq q1) q, pe_le (pe_un ho.run ha.run) fun σ H Q ⟨ι, γ, S, rl, rs, q⟩ =>
    ⟨ι, γ, S, rl, rs, ha.mono γ S _ _ (fun x S1 q1 ι1 H1 v g1 r1 vx => ⟨ι1, S1, x, r1, vx, ho.mono x S1 _ _ (fun d S' q => q.gr g1) q1⟩) q⟩⟩
end
/-- by the data -/
theorem opr_data {sem : Value → Value → Sem Value} {f : F2} (h : ∀ (ι : List Addr) (S : Sto) (H : Hp) (x y : D) (v u : V) (Q : VK), SR X.K ι H S → VR X.K ι H x v → VR X.K ι H y u → f x y S (Aft X.K ι H Q) → ∃ r', OpR X sem r' ∧ r' v u H Q) : OpR X sem (lo2 X.K f) := fun pins s σ H v u ov ou Q I rx ry q => by
  obtain ⟨ι, S, x, y, rs, vx, vy, q⟩ := q
  obtain ⟨r', h1, h2⟩ := h ι S H x y v u Q rs vx vy q
  exact h1 pins s σ H v u ov ou Q I rx ry h2
theorem unr_data {sem : Value → Sem Value} {f : F1} (h : ∀ (ι : List Addr) (S : Sto) (H : Hp) (x : D) (v : V) (Q : VK), SR X.K ι H S → VR X.K ι H x v → f x S (Aft X.K ι H Q) → ∃ r', UnR X sem r' ∧ r' v H Q) : UnR X sem (lo1 X.K f) := fun pins s σ H v ov Q I rx q => by
  obtain ⟨ι, S, x, rs, vx, q⟩ := q
  obtain ⟨r', h1, h2⟩ := h ι S H x v Q rs vx q
  exact h1 pins s σ H v ov Q I rx h2
theorem callr_data {fv : Value} {f : FL} (h : ∀ (ι : List Addr) (S : Sto) (H : Hp) (xs : List D) (vs : List V) (Q : VK), SR X.K ι H S → VRs X.K ι H xs vs → f xs S (Aft X.K ι H Q) → ∃ r', CallR X fv r' ∧ r' vs H Q) : CallR X fv (loF X.K f) := fun pins s σ H vs us Q I rx q => by
  obtain ⟨ι, S, xs, rs, vx, q⟩ := q
  obtain ⟨r', h1, h2⟩ := h ι S H xs vs Q rs vx q
  exact h1 pins s σ H vs us Q I rx h2
/-- an answer that is no new thing -/
theorem Aft.val {K : PySem.W.Frag} {ι : List Addr} {H : Hp} {Q : VK} {d : D} {S : Sto} {v : V} (q : Aft K ι H Q d S) (rs : SR K ι H S) (h : VR K ι H d v) : Q v H := q ι H v .refl rs h
/-- a new tuple -/
theorem Aft.tup {K : PySem.W.Frag} {ι : List Addr} {H : Hp} {Q : VK} {ds : List D} {S : Sto} {vs : List V} (q : Aft K ι H Q (.tup ds) S) (rs : SR K ι H S) (h : VRs K ι H ds vs) {p : Addr} (hp : H p = none) : Q (.ref p) (upd H p (.tup vs)) :=
  q ι _ _ (.fresh hp) (rs.laid hp) (.tup (.inl (.inl upd_same)) (h.gr (.fresh hp)))
/-- a new list -/
theorem Aft.lst {K : PySem.W.Frag} {ι : List Addr} {H : Hp} {Q : VK} {ds : List D} {S : Sto} {vs : List V} (q : Aft K ι H Q (.loc S.length) (S ++ [.lst ds])) (rs : SR K ι H S) (h : VRs K ι H ds vs) {p : Addr} (hp : H p = none) : Q (.ref p) (upd H p (.lst vs)) := by
  have g : Gr K ι H (ι ++ [p]) (upd H p (.lst vs)) := .grown hp
  refine q (ι ++ [p]) _ _ g (rs.new hp ⟨vs, upd_same, h.gr g⟩) (.loc ?_)
  rw [← rs.len, List.getElem?_append_right (Nat.le_refl _), Nat.sub_self]
  rfl
/-- a list written -/
theorem SR.lput {K : PySem.W.Frag} {ι : List Addr} {H : Hp} {ds : List D} {S : Sto} {vs us : List V} {l : Nat} {a : Addr} (rs : SR K ι H S) (hl : ι[l]? = some a) (e : H a = some (.lst us)) (h : VRs K ι H ds vs) :
    Gr K ι H ι (upd H a (.lst vs)) ∧ SR K ι (upd H a (.lst vs)) (S.set l (.lst ds)) := by
  have m : Mut (H a) := by
    rw [e]
    trivial
  exact ⟨.written m, rs.put hl m ⟨vs, upd_same, h.gr (.written m)⟩⟩
/-! ### + - * // % ** -/
def dAdd : F2
  | .int i, .int j, S, Q => Q (.int (i + j)) S
  | .str x, .str y, S, Q => x.length + y.length ≤ sizeLine ∧ Q (.str (x ++ y)) S
  | .tup a, .tup b, S, Q => a.length + b.length ≤ sizeLine ∧ Q (.tup (a ++ b)) S
  | .loc l, .loc m, S, Q => match S[l]?, S[m]? with
    | some (.lst a), some (.lst b) => a.length + b.length ≤ sizeLine ∧ Q (.loc S.length) (S ++ [.lst (a ++ b)])
    | _, _ => False
  | _, _, _, _ => False
theorem VRs.nil_iff {K : PySem.W.Frag} {ι : List Addr} {H : Hp} {ds : List D} {vs : List V} (h : VRs K ι H ds vs) : ds = [] ↔ vs = [] := by
  cases h with
  | nil => exact ⟨fun _ => rfl, fun _ => rfl⟩
  | cons _ _ => exact ⟨fun q => (nomatch q), fun q => (nomatch q)⟩
theorem VR.list {K : PySem.W.Frag} {ι : List Addr} {H : Hp} {S : Sto} {l : Nat} {v : V} {ds : List D} (rs : SR K ι H S) (h : VR K ι H (.loc l) v) (e : S[l]? = some (.lst ds)) : ∃ a vs, v = .ref a ∧ ι[l]? = some a ∧ H a = some (.lst vs) ∧ VRs K ι H ds vs := by
  cases h with
  | loc h =>
    obtain ⟨b, e2, vs, h1, h2⟩ := rs.get e
    rw [h] at e2
    cases e2
    exact ⟨_, vs, rfl, h, h1, h2⟩
theorem go_add : GO X (binaryOp .Add) dAdd := by
  refine ⟨fun x y S Q Q' hq q => ?_, opr_data fun ι S H x y v u Q rs vx vy q => ?_⟩
  · unfold dAdd at q ⊢
    split at q
    · exact hq _ _ q
    · exact ⟨q.1, hq _ _ q.2⟩
    · exact ⟨q.1, hq _ _ q.2⟩
    · split at q
      · exact ⟨q.1, hq _ _ q.2⟩
      · exact q
    · exact q.elim
  · unfold dAdd at q
    split at q
    · cases vx
      cases vy
      exact ⟨_, op_add, _, _, rfl, rfl, q.val rs (.int _)⟩
    · cases vx
      cases vy
      exact ⟨_, op_add_str, _, _, rfl, rfl, q.1, q.2.val rs (.str _)⟩
    · cases vx with
      | tup h1 r1 =>
      cases vy with
      | tup h2 r2 =>
      refine ⟨_, op_catA, _, _, _, _, rfl, rfl, h1, h2, by rw [← r1.len, ← r2.len]; exact q.1, fun e => ?_, fun _ e => ?_, fun _ _ p hp => q.2.tup rs (r1.app r2) hp⟩
      · refine q.2.val rs ?_
        rw [r1.nil_iff.mpr e, List.nil_append]
        exact .tup h2 r2
      · refine q.2.val rs ?_
        rw [r2.nil_iff.mpr e, List.append_nil]
        exact .tup h1 r1
    · split at q
      · rename_i e1 e2
        obtain ⟨a, vs, rfl, i1, h1, r1⟩ := vx.list rs e1
        obtain ⟨b, us, rfl, i2, h2, r2⟩ := vy.list rs e2
        exact ⟨_, op_cat, _, _, _, _, rfl, rfl, h1, h2, by rw [← r1.len, ← r2.len]; exact q.1, fun p hp => q.2.lst rs (r1.app r2) hp⟩
      · exact q.elim
    · exact q.elim
def dSub : F2
  | .int i, .int j, S, Q => Q (.int (i - j)) S
  | _, _, _, _ => False
theorem go_sub : GO X (binaryOp .Sub) dSub := by
  refine ⟨fun x y S Q Q' hq q => ?_, opr_data fun ι S H x y v u Q rs vx vy q => ?_⟩
  · unfold dSub at q ⊢
    split at q
    · exact hq _ _ q
    · exact q.elim
  · unfold dSub at q
    split at q
    · cases vx
      cases vy
      exact ⟨_, op_sub, _, _, rfl, rfl, q.val rs (.int _)⟩
    · exact q.elim
def dMul : F2
  | .int i, .int j, S, Q => (CMul i j ∨ CMulW i j) ∧ Q (.int (i * j)) S
  | .loc l, .int k, S, Q => match S[l]? with
    | some (.lst a) => (-(2 ^ 63) ≤ k ∧ k < 2 ^ 63) ∧ a.length * k.toNat ≤ sizeLine ∧ Q (.loc S.length) (S ++ [.lst (List.replicate k.toNat a).flatten])
    | _ => False
  | .tup a, .int k, S, Q => (a ≠ [] ∧ 2 ≤ k ∧ k ≤ 1000 ∧ a.length ≤ 1000) ∧ Q (.tup (List.replicate k.toNat a).flatten) S
  | _, _, _, _ => False
theorem VRs.reps {K : PySem.W.Frag} {ι : List Addr} {H : Hp} {ds : List D} {vs : List V} (r : VRs K ι H ds vs) : ∀ n : Nat, VRs K ι H (List.replicate n ds).flatten (List.replicate n vs).flatten
  | 0 => .nil
  | n + 1 => by
    rw [List.replicate_succ, List.replicate_succ, List.flatten_cons, List.flatten_cons]
    exact r.app (r.reps n)
theorem go_mul : GO X (binaryOp .Mult) dMul := by
  refine ⟨fun x y S Q Q' hq q => ?_, opr_data fun ι S H x y v u Q rs vx vy q => ?_⟩
  · unfold dMul at q ⊢
    split at q
    · exact ⟨q.1, hq _ _ q.2⟩
    · split at q
      · exact ⟨q.1, q.2.1, hq _ _ q.2.2⟩
      · exact q
    · exact ⟨q.1, hq _ _ q.2⟩
    · exact q.elim
  · unfold dMul at q
    split at q
    · cases vx
      cases vy
      rcases q.1 with c | c
      · exact ⟨_, op_mul, _, _, rfl, rfl, c, q.2.val rs (.int _)⟩
      · exact ⟨_, op_mulW, _, _, rfl, rfl, c, q.2.val rs (.int _)⟩
    · split at q
      · rename_i e1
        obtain ⟨a, vs, rfl, i1, h1, r1⟩ := vx.list rs e1
        cases vy
        exact ⟨_, op_rep, _, _, _, rfl, rfl, h1, q.1.1, q.1.2, by rw [← r1.len]; exact q.2.1, fun p hp => q.2.2.lst rs (r1.reps _) hp⟩
      · exact q.elim
    · cases vx with
      | tup h1 r1 =>
      cases vy
      exact ⟨_, op_repT, _, _, _, rfl, rfl, h1, fun e => q.1.1 (r1.nil_iff.mpr e), q.1.2.1, q.1.2.2.1, by rw [← r1.len]; exact q.1.2.2.2, fun p hp => q.2.tup rs (r1.reps _) hp⟩
    · exact q.elim
/-- // and % by a positive number -/
def dDiv : F2
  | .int i, .int j, S, Q => CDivW i j ∧ Q (.int (i / j)) S
  | _, _, _, _ => False
theorem go_div : GO X (binaryOp .FloorDiv) dDiv := by
  refine ⟨fun x y S Q Q' hq q => ?_, opr_data fun ι S H x y v u Q rs vx vy q => ?_⟩
  · unfold dDiv at q ⊢
    split at q
    · exact ⟨q.1, hq _ _ q.2⟩
    · exact q.elim
  · unfold dDiv at q
    split at q
    · cases vx
      cases vy
      exact ⟨_, op_fdivW, _, _, rfl, rfl, q.1, q.2.val rs (.int _)⟩
    · exact q.elim
def dMod : F2
  | .int i, .int j, S, Q => 0 < j ∧ Q (.int (i % j)) S
  | _, _, _, _ => False
theorem go_mod : GO X (binaryOp .Mod) dMod := by
  refine ⟨fun x y S Q Q' hq q => ?_, opr_data fun ι S H x y v u Q rs vx vy q => ?_⟩
  · unfold dMod at q ⊢
    split at q
    · exact ⟨q.1, hq _ _ q.2⟩
    · exact q.elim
  · unfold dMod at q
    split at q
    · cases vx
      cases vy
      exact ⟨_, op_mod, _, _, rfl, rfl, q.1, q.2.val rs (.int _)⟩
    · exact q.elim
def dPow : F2
  | .int i, .int j, S, Q => CPow i j ∧ Q (.int (i ^ j.toNat)) S
  | _, _, _, _ => False
theorem go_pow : GO X (binaryOp .Pow) dPow := by
  refine ⟨fun x y S Q Q' hq q => ?_, opr_data fun ι S H x y v u Q rs vx vy q => ?_⟩
  · unfold dPow at q ⊢
    split at q
    · exact ⟨q.1, hq _ _ q.2⟩
    · exact q.elim
  · unfold dPow at q
    split at q
    · cases vx
      cases vy
      exact ⟨_, op_pow, _, _, rfl, rfl, q.1, q.2.val rs (.int _)⟩
    · exact q.elim
def dNeg : F1
  | .int i, S, Q => Q (.int (-i)) S
  | _, _, _ => False
theorem gu_neg : GU X (unaryOp .USub) dNeg := by
  refine ⟨fun x S Q Q' hq q => ?_, unr_data fun ι S H x v Q rs vx q => ?_⟩
  · unfold dNeg at q ⊢
    split at q
    · exact hq _ _ q
    · exact q.elim
  · unfold dNeg at q
    split at q
    · cases vx
      exact ⟨_, un_neg, _, rfl, q.val rs (.int _)⟩
    · exact q.elim
/-! ### comparisons -/
def dCmp (p : Int → Int → Bool) : F2
  | .int i, .int j, S, Q => Q (.bl (p i j)) S
  | _, _, _, _ => False
theorem go_cmp {op : CmpOp} {p : Int → Int → Bool} (h : OpR X (compareOp op) (rI0 fun i j => .bl (p i j))) : GO X (compareOp op) (dCmp p) := by
  refine ⟨fun x y S Q Q' hq q => ?_, opr_data fun ι S H x y v u Q rs vx vy q => ?_⟩
  · unfold dCmp at q ⊢
    split at q
    · exact hq _ _ q
    · exact q.elim
  · unfold dCmp at q
    split at q
    · cases vx
      cases vy
      exact ⟨_, h, _, _, rfl, rfl, q.val rs (.bl _)⟩
    · exact q.elim
abbrev dLt : F2 := dCmp fun i j => decide (i < j)
abbrev dLe : F2 := dCmp fun i j => decide (i ≤ j)
abbrev dGt : F2 := dCmp fun i j => decide (j < i)
abbrev dGe : F2 := dCmp fun i j => decide (j ≤ i)
theorem go_lt : GO X (compareOp .Lt) dLt := go_cmp op_lt
theorem go_le : GO X (compareOp .LtE) dLe := go_cmp op_le
theorem go_gt : GO X (compareOp .Gt) dGt := go_cmp op_gt
theorem go_ge : GO X (compareOp .GtE) dGe := go_cmp op_ge
def isNon : D → Bool
  | .non => true
  | _ => false
theorem isNon_rel {K : PySem.W.Frag} {ι : List Addr} {H : Hp} {x : D} {v : V} (h : VR K ι H x v) : decide (v = .non) = isNon x := by
  cases h <;> rfl
/-- x is None, x is not None -/
def dIs (neg : Bool) : F2
  | x, .non, S, Q => Q (.bl (neg ^^ isNon x)) S
  | _, _, _, _ => False
theorem go_is : GO X (compareOp .Is) (dIs false) := by
  refine ⟨fun x y S Q Q' hq q => ?_, opr_data fun ι S H x y v u Q rs vx vy q => ?_⟩
  · unfold dIs at q ⊢
    split at q
    · exact hq _ _ q
    · exact q.elim
  · unfold dIs at q
    split at q
    · cases vy
      refine ⟨_, op_isN, rfl, ?_⟩
      rw [isNon_rel vx]
      rw [Bool.false_xor] at q
      exact q.val rs (.bl _)
    · exact q.elim
theorem go_isnot : GO X (compareOp .IsNot) (dIs true) := by
  refine ⟨fun x y S Q Q' hq q => ?_, opr_data fun ι S H x y v u Q rs vx vy q => ?_⟩
  · unfold dIs at q ⊢
    split at q
    · exact hq _ _ q
    · exact q.elim
  · unfold dIs at q
    split at q
    · cases vy
      refine ⟨_, op_notN, rfl, ?_⟩
      rw [isNon_rel vx]
      rw [Bool.true_xor] at q
      exact q.val rs (.bl _)
    · exact q.elim
/-! ### plain data, ==, repr -/
mutual
def toP : D → Option PyData
  | .non => some .none
  | .bl b => some (.bool b)
  | .int i => some (.int i)
  | .str x => some (.str x)
  | .tup ds => (toPs ds).map .tuple
  | .frl ds => (toPs ds).map .list
  | .loc _ => none
def toPs : List D → Option (List PyData)
  | [] => some []
  | d :: ds => match toP d, toPs ds with
    | some x, some xs => some (x :: xs)
    | _, _ => none
end
mutual
theorem toP_dp {K : PySem.W.Frag} {ι : List Addr} {H : Hp} : ∀ {d : D} {v : V} {p : PyData}, VR K ι H d v → toP d = some p → Dp K H v p
  | _, _, _, .non, e => by cases e; exact .non
  | _, _, _, .bl b, e => by cases e; exact .bl b
  | _, _, _, .int i, e => by cases e; exact .int i
  | _, _, _, .str x, e => by cases e; exact .str x
  | _, _, _, .tup (ds := ds) h hs, e => by
    unfold toP at e
    cases q : toPs ds with
    | none => rw [q] at e; cases e
    | some xs => rw [q] at e; cases e; exact .tup h (toPs_dp hs q)
  | _, _, _, .frl (ds := ds) h hs, e => by
    unfold toP at e
    cases q : toPs ds with
    | none => rw [q] at e; cases e
    | some xs => rw [q] at e; cases e; exact .lst h.seq (toPs_dp hs q)
  | _, _, _, .loc h, e => by cases e
theorem toPs_dp {K : PySem.W.Frag} {ι : List Addr} {H : Hp} : ∀ {ds : List D} {vs : List V} {ps : List PyData}, VRs K ι H ds vs → toPs ds = some ps → DpAll K H vs ps
  | _, _, _, .nil, e => by cases e; exact .nil
  | _, _, _, .cons (d := d) (ds := ds) h hs, e => by
    unfold toPs at e
    cases q : toP d with
    | none => rw [q] at e; cases e
    | some x =>
      cases r : toPs ds with
      | none => rw [q, r] at e; cases e
      | some xs => rw [q, r] at e; cases e; exact .cons (toP_dp h q) (toPs_dp hs r)
end
def dEq (neg : Bool) : F2 := fun x y S Q => match x, y with
  | .int i, .int j => Q (.bl (neg ^^ decide (i = j))) S
  | .str i, .str j => Q (.bl (neg ^^ decide (i = j))) S
  | x, y => match toP x, toP y with
    | some d, some e => SeqAt.shaped d = true ∧ SeqAt.shaped e = true ∧ Q (.bl (neg ^^ PyData.eqv d e)) S
    | _, _ => False
theorem mono_eq {neg : Bool} : Mono2 (dEq neg) := fun x y S Q Q' hq q => by
  unfold dEq at q ⊢
  split at q
  · exact hq _ _ q
  · exact hq _ _ q
  · split at q
    · exact ⟨q.1, q.2.1, hq _ _ q.2.2⟩
    · exact q
theorem go_eq (hu : X.A.units + 64 < cLine) : GO X (compareOp .Eq) (dEq false) := by
  refine ⟨mono_eq, opr_data fun ι S H x y v u Q rs vx vy q => ?_⟩
  unfold dEq at q
  split at q
  · cases vx
    cases vy
    rename_i i j
    rw [Bool.false_xor] at q
    refine ⟨_, op_eq, rfl, ?_⟩
    rw [show decide (V.int i = V.int j) = decide (i = j) from decide_eq_decide.mpr ⟨V.int.inj, congrArg _⟩]
    exact q.val rs (.bl _)
  · cases vx
    cases vy
    rename_i i j
    rw [Bool.false_xor] at q
    refine ⟨_, op_eq, rfl, ?_⟩
    rw [show decide (V.str i = V.str j) = decide (i = j) from decide_eq_decide.mpr ⟨V.str.inj, congrArg _⟩]
    exact q.val rs (.bl _)
  · split at q
    · rename_i e1 e2
      rw [Bool.false_xor] at q
      exact ⟨_, op_eqD hu, _, _, toP_dp vx e1, toP_dp vy e2, q.1, q.2.1, q.2.2.val rs (.bl _)⟩
    · exact q.elim
theorem go_ne (hu : X.A.units + 64 < cLine) : GO X (compareOp .NotEq) (dEq true) := by
  refine ⟨mono_eq, opr_data fun ι S H x y v u Q rs vx vy q => ?_⟩
  unfold dEq at q
  split at q
  · cases vx
    cases vy
    rename_i i j
    rw [Bool.true_xor] at q
    refine ⟨_, op_ne, rfl, ?_⟩
    rw [show decide (V.int i = V.int j) = decide (i = j) from decide_eq_decide.mpr ⟨V.int.inj, congrArg _⟩]
    exact q.val rs (.bl _)
  · cases vx
    cases vy
    rename_i i j
    rw [Bool.true_xor] at q
    refine ⟨_, op_ne, rfl, ?_⟩
    rw [show decide (V.str i = V.str j) = decide (i = j) from decide_eq_decide.mpr ⟨V.str.inj, congrArg _⟩]
    exact q.val rs (.bl _)
  · split at q
    · rename_i e1 e2
      rw [Bool.true_xor] at q
      exact ⟨_, op_neD hu, _, _, toP_dp vx e1, toP_dp vy e2, q.1, q.2.1, q.2.2.val rs (.bl _)⟩
    · exact q.elim
end
end G
namespace G
open PySem PySem.Spec L2
section
variable {X : Cx}
/-! ### argument lists, displays -/
def aNil : GT (List D) := fun _ S Q => Q [] S
def aCons (ga : GT D) (gr : GT (List D)) : GT (List D) := fun γ S Q => ga γ S fun x S1 => gr γ S1 fun xs S2 => Q (x :: xs) S2
theorem ga_nil : GA X [] aNil := ⟨fun _ S _ _ hq q => hq _ S q, pa_le pa_nil fun σ H Q ⟨ι, γ, S, rl, rs, q⟩ => q ι H [] .refl rs .nil⟩
theorem ga_cons {e : Expr} {es : List Expr} {ga : GT D} {gr : GT (List D)} (ha : GE X e ga) (hr : GA X es gr) (hs : starEach (e :: es) X.env = (false, eval e X.env) :: starEach es X.env := by rfl) : GA X (e :: es) (aCons ga gr) := by
  refine ⟨fun γ S Q Q' hq q => ha.mono γ S _ _ (fun x S1 q1 => hr.mono γ S1 _ _ (fun xs S2 q2 => hq _ _ q2) q1) q, pa_le (pa_cons ha.run hr.run hs) fun σ H Q h => ?_⟩
  obtain ⟨ι, γ, S, rl, rs, q⟩ := h
  exact ⟨ι, γ, S, rl, rs, ha.mono γ S _ _ (fun x S1 q1 ι1 H1 v g1 r1 vx => ⟨ι1, γ, S1, rl.gr g1, r1, hr.mono γ S1 _ _ (fun xs S2 q2 ι2 H2 vs g2 r2 vxs => q2 ι2 H2 _ (g1.trans g2) r2 (.cons (vx.gr g2) vxs)) q1⟩) q⟩
def gTup (ga : GT (List D)) : GT D := fun γ S Q => ga γ S fun ds S1 => ds.length ≤ sizeLine ∧ Q (.tup ds) S1
def gLst (ga : GT (List D)) : GT D := fun γ S Q => ga γ S fun ds S1 => ds.length ≤ sizeLine ∧ Q (.loc S1.length) (S1 ++ [.lst ds])
theorem ge_tup {es : List Expr} {k} {pos : Pos} {ga : GT (List D)} (ha : GA X es ga) : GE X (.Tuple es k pos) (gTup ga) := by
  refine ⟨fun γ S Q Q' hq q => ha.mono γ S _ _ (fun x S1 q1 => ⟨q1.1, hq _ _ q1.2⟩) q, pe_le (pe_tup ha.run) fun σ H Q h => ?_⟩
  obtain ⟨ι, γ, S, rl, rs, q⟩ := h
  exact ⟨ι, γ, S, rl, rs, ha.mono γ S _ _ (fun x S1 q1 ι1 H1 vs g1 r1 vx => ⟨by rw [← vx.len]; exact q1.1, fun p hp => (q1.2.gr g1).tup r1 vx hp⟩) q⟩
theorem ge_lst {es : List Expr} {pos : Pos} {ga : GT (List D)} (ha : GA X es ga) : GE X (.List es pos) (gLst ga) := by
  refine ⟨fun γ S Q Q' hq q => ha.mono γ S _ _ (fun x S1 q1 => ⟨q1.1, hq _ _ q1.2⟩) q, pe_le (pe_lst ha.run) fun σ H Q h => ?_⟩
  obtain ⟨ι, γ, S, rl, rs, q⟩ := h
  exact ⟨ι, γ, S, rl, rs, ha.mono γ S _ _ (fun x S1 q1 ι1 H1 vs g1 r1 vx => ⟨by rw [← vx.len]; exact q1.1, fun p hp => (q1.2.gr g1).lst r1 vx hp⟩) q⟩
/-! ### subscripts -/
theorem VRs.at_ {K : PySem.W.Frag} {ι : List Addr} {H : Hp} {ds : List D} {vs : List V} {i : Int} {d : D} (r : VRs K ι H ds vs) (e : atI ds i = some d) : ∃ v, atI vs i = some v ∧ VR K ι H d v := by
  unfold atI at e ⊢
  rw [← r.len]
  cases q : ixN ds.length i with
  | none => rw [q] at e; cases e
  | some j => rw [q] at e; exact r.get e
def dIx : F2
  | .tup ds, .int i, S, Q => match atI ds i with
    | some d => Q d S
    | none => False
  | .frl ds, .int i, S, Q => match atI ds i with
    | some d => Q d S
    | none => False
  | .loc l, .int i, S, Q => match S[l]? with
    | some (.lst ds) => match atI ds i with
      | some d => Q d S
      | none => False
    | _ => False
  | .str z, .int i, S, Q => match atI z.cps.toList i with
    | some c => z.length ≤ sizeLine ∧ Q (.str ⟨#[c]⟩) S
    | none => False
  | _, _, _, _ => False
theorem mono_ix : Mono2 dIx := fun x y S Q Q' hq q => by
  unfold dIx at q ⊢
  repeat' split at q
  all_goals first | exact hq _ _ q | exact ⟨q.1, hq _ _ q.2⟩ | exact q.elim
theorem ix_data : IxR X (lo2 X.K dIx) := by
  intro value slice pins s σ H v u ov ou Q I rx ry q hs
  refine ix_seq value slice pins s σ H v u ov ou Q I rx ry ?_ hs
  obtain ⟨ι, S, x, y, rs, vx, vy, q⟩ := q
  unfold dIx at q
  split at q
  · split at q
    · rename_i e
      cases vx with
      | tup h1 r1 =>
      cases vy
      obtain ⟨w, h2, h3⟩ := r1.at_ e
      exact .inr (.inl ⟨_, _, _, w, rfl, rfl, h1, h2, q.val rs h3⟩)
    · exact q.elim
  · split at q
    · rename_i e
      cases vx with
      | frl h1 r1 =>
      cases vy
      obtain ⟨w, h2, h3⟩ := r1.at_ e
      exact .inl ⟨_, _, _, w, rfl, rfl, h1.seq, h2, q.val rs h3⟩
    · exact q.elim
  · split at q
    · rename_i e1
      obtain ⟨a, vs, rfl, i1, h1, r1⟩ := vx.list rs e1
      split at q
      · rename_i e
        cases vy
        obtain ⟨w, h2, h3⟩ := r1.at_ e
        exact .inl ⟨_, _, _, w, rfl, rfl, SqL.of h1, h2, q.val rs h3⟩
      · exact q.elim
    · exact q.elim
  · split at q
    · rename_i e
      cases vx
      cases vy
      exact .inr (.inr ⟨_, _, _, rfl, rfl, q.1, e, q.2.val rs (.str _)⟩)
    · exact q.elim
  · exact q.elim
theorem ge_ix {a b : Expr} {ga gb : GT D} {pos : Pos} (ha : GE X a ga) (hb : GE X b gb) (hs : PlainIx b) : GE X (.Subscript a b pos) (gBin dIx ga gb) :=
  ⟨mono_bin mono_ix ha.mono hb.mono, pe_le (pe_ix ix_data ha.run hb.run hs) fun _ _ _ => lo_bin mono_ix ha.mono hb.mono⟩
theorem get_at {pins : List (Addr × Obj)} {s : Shared} {σ : L2.St} {H : Hp} {a : Addr} {vs : List V} {i : Int} {w : V} {t : Tok} {Q : VK} (I : Inv X pins σ H s) (h1 : H a = some (.lst vs)) (h2 : atI vs i = some w) (q : Q w H) :
    wpAny (model X.prog X.w) X.A (getItem (.ref a) (.int i t)) (EP X pins σ Q) X.xe s := by
  obtain ⟨its, r, pl, hz⟩ := I.list (SqL.of h1)
  obtain ⟨j, g1, g2, g3, g4, g5⟩ := atI_get h2
  obtain ⟨w', ew, rw'⟩ := r.get g2
  have hl := r.length
  have hn := line63
  have fin : EP X pins σ Q w' s := ⟨w, H, I, rw', q⟩
  by_cases h0 : 0 ≤ i
  · have hj : i.toNat = j := by
      rw [PySem.seqIndex_of h0 g5] at g1
      exact Option.some.inj g1
    exact wpAny_getItem_list pl.isList h0 (by omega) (by rw [hj]; simpa using ew) fin
  · have hj : (i + (its.toArray.size : Int)).toNat = j := by
      rw [PySem.seqIndex_neg (by omega) g4] at g1
      rw [List.size_toArray, ← hl]
      exact Option.some.inj g1
    exact PySem.wpAny_getItem_list_neg pl.isList (by omega) (by rw [List.size_toArray] <;> omega) (by omega) (by rw [hj]; simpa using ew) fin
/-- by values, for o[i] op= e -/
def dGet : F2
  | .loc l, .int i, S, Q => match S[l]? with
    | some (.lst ds) => match atI ds i with
      | some d => Q d S
      | none => False
    | _ => False
  | _, _, _, _ => False
theorem mono_get : Mono2 dGet := fun x y S Q Q' hq q => by
  unfold dGet at q ⊢
  repeat' (first | exact hq _ _ q | exact q.elim | split at q)
theorem pget_data : PGet X (lo2 X.K dGet) := by
  intro pins s σ H o i0 ov iv Q I ro ri q
  obtain ⟨ι, S, x, y, rs, vx, vy, q⟩ := q
  unfold dGet at q
  split at q
  · split at q
    · rename_i e1
      obtain ⟨a, vs, rfl, i1, h1, r1⟩ := vx.list rs e1
      split at q
      · rename_i e
        cases vy
        obtain ⟨w, h2, h3⟩ := r1.at_ e
        cases ro
        obtain ⟨t, rfl⟩ := ri
        exact get_at I h1 h2 (q.val rs h3)
      · exact q.elim
    · exact q.elim
  · exact q.elim
/-! ### slices -/
def cutD (xs : List D) (lo hi : Option Int) : List D := (xs.drop (HT.sIx xs.length 0 lo)).take (HT.sIx xs.length xs.length hi - HT.sIx xs.length 0 lo)
theorem VRs.slice {K : PySem.W.Frag} {ι : List Addr} {H : Hp} {ds : List D} {vs : List V} (r : VRs K ι H ds vs) (lo hi : Option Int) : VRs K ι H (cutD ds lo hi) (cutV vs lo hi) := by
  unfold cutD cutV
  rw [r.len]
  exact (r.drop _).take _
abbrev TP2 := Sl → Sto → (Option Int → Sto → Prop) → Prop
def loP (K : PySem.W.Frag) (g : TP2) : TO := fun σ H Q => ∃ ι γ S, LR K ι H γ σ ∧ SR K ι H S ∧ g γ S fun o S' => ∀ ι' H', Gr K ι H ι' H' → SR K ι' H' S' → Q o H'
structure GP (X : Cx) (e : Option Expr) (g : TP2) : Prop where
  mono : ∀ γ S (Q Q' : Option Int → Sto → Prop), (∀ d S', Q d S' → Q' d S') → g γ S Q → g γ S Q'
  run : PO X e (loP X.K g)
def pNone : TP2 := fun _ S Q => Q none S
def pSome (g : GT D) : TP2 := fun γ S Q => g γ S fun x S1 => match x with
  | .int i => Q (some i) S1
  | _ => False
theorem gp_none : GP X none pNone := ⟨fun _ S _ _ hq q => hq _ S q, ⟨fun p s σ H Q I ⟨ι, γ, S, rl, rs, q⟩ => po_none.run p s σ H Q I (q ι H .refl rs)⟩⟩
theorem gp_some {e : Expr} {g : GT D} (h : GE X e g) : GP X (some e) (pSome g) := by
  refine ⟨fun γ S Q Q' hq q => h.mono γ S _ _ (fun x S1 q1 => ?_) q, ⟨fun p s σ H Q I h2 => (po_some h.run).run p s σ H Q I ?_⟩⟩
  · split at q1
    · exact hq _ _ q1
    · exact q1
  · obtain ⟨ι, γ, S, rl, rs, q⟩ := h2
    refine ⟨ι, γ, S, rl, rs, h.mono γ S _ _ (fun x S1 q1 ι1 H1 v g1 r1 vx => ?_) q⟩
    split at q1
    · cases vx
      exact ⟨_, rfl, q1 ι1 H1 g1 r1⟩
    · exact q1.elim
def dSl (x : D) (lo hi : Option Int) (S : Sto) (Q : D → Sto → Prop) : Prop := match x with
  | .tup ds => Q (.tup (cutD ds lo hi)) S
  | .loc l => match S[l]? with
    | some (.lst ds) => Q (.loc S.length) (S ++ [.lst (cutD ds lo hi)])
    | _ => False
  | .str z => z.length ≤ sizeLine ∧ Q (.str (cutS z lo hi)) S
  | _ => False
theorem sl_data : SlR X (fun v l h H Q => ∃ ι S x, SR X.K ι H S ∧ VR X.K ι H x v ∧ dSl x l h S (Aft X.K ι H Q)) := by
  intro pins s σ H x v vl vu lo hi sl Q I rx hs pl pu h
  obtain ⟨ι, S, d, rs, vd, q⟩ := h
  unfold dSl at q
  split at q
  · cases vd with
    | tup h1 r1 =>
    refine sl_tupA pins s σ H _ v vl vu lo hi sl Q I rx hs pl pu ⟨_, _, rfl, h1, fun e => ?_, fun _ p hp => q.tup rs (r1.slice _ _) hp⟩
    refine q.val rs (.tup h1 ?_)
    unfold cutD
    rw [← r1.len] at e
    rw [e.1, e.2, List.drop_zero, Nat.sub_zero, List.take_length]
    exact r1
  · split at q
    · rename_i e1
      obtain ⟨a, vs, rfl, i1, h1, r1⟩ := vd.list rs e1
      exact sl_list pins s σ H _ v vl vu lo hi sl Q I rx hs pl pu ⟨_, _, rfl, SqL.of h1, fun p hp => q.lst rs (r1.slice _ _) hp⟩
    · exact q.elim
  · cases vd
    exact sl_str pins s σ H _ v vl vu lo hi sl Q I rx hs pl pu ⟨_, rfl, q.1, q.2.val rs (.str _)⟩
  · exact q.elim
def gSl (ge : GT D) (gl gh : TP2) : GT D := fun γ S Q => ge γ S fun x S1 => gl γ S1 fun l S2 => gh γ S2 fun h S3 => dSl x l h S3 Q
theorem mono_sl {x l h S} {Q Q' : D → Sto → Prop} (hq : ∀ d S', Q d S' → Q' d S') (q : dSl x l h S Q) : dSl x l h S Q' := by
  unfold dSl at q ⊢
  repeat' split at q
  all_goals first | exact hq _ _ q | exact ⟨q.1, hq _ _ q.2⟩ | exact q.elim
theorem ge_sl {e : Expr} {lo hi : Option Expr} {ge : GT D} {gl gh : TP2} {pos p2 : Pos} (he : GE X e ge) (hl : GP X lo gl) (hh : GP X hi gh) : GE X (.Subscript e (.Slice lo hi none p2) pos) (gSl ge gl gh) := by
  refine ⟨fun γ S Q Q' hq q => he.mono γ S _ _ (fun x S1 q1 => hl.mono γ S1 _ _ (fun l S2 q2 => hh.mono γ S2 _ _ (fun h S3 q3 => mono_sl hq q3) q2) q1) q, pe_le (pe_slice sl_data he.run hl.run hh.run) fun σ H Q h => ?_⟩
  obtain ⟨ι, γ, S, rl, rs, q⟩ := h
  exact ⟨ι, γ, S, rl, rs, he.mono γ S _ _ (fun x S1 q1 ι1 H1 v g1 r1 vx => ⟨ι1, γ, S1, rl.gr g1, r1, hl.mono γ S1 _ _ (fun l S2 q2 ι2 H2 g2 r2 => ⟨ι2, γ, S2, (rl.gr g1).gr g2, r2, hh.mono γ S2 _ _ (fun h S3 q3 ι3 H3 g3 r3 =>
    ⟨ι3, S3, x, r3, (vx.gr g2).gr g3, mono_sl (fun d S' q => q.gr ((g1.trans g2).trans g3)) q3⟩) q2⟩) q1⟩) q⟩
/-! ### built-in calls -/
def gCall (f : FL) (ga : GT (List D)) : GT D := fun γ S Q => ga γ S fun xs S1 => f xs S1 Q
theorem mono_call {f : FL} {ga : GT (List D)} (hf : MonoL f) (ha : Mono ga) : Mono (gCall f ga) := fun γ S Q Q' hq q => ha γ S _ _ (fun x S1 q1 => hf x S1 Q Q' hq q1) q
theorem lo_call {f : FL} {ga : GT (List D)} (hf : MonoL f) (ha : Mono ga) {σ : L2.St} {H : Hp} {Q : VK} (q : lo X.K (gCall f ga) σ H Q) : tCB (loF X.K f) (loL X.K ga) σ H Q := by
  obtain ⟨ι, γ, S, rl, rs, q⟩ := q
  exact ⟨ι, γ, S, rl, rs, ha γ S _ _ (fun xs S1 q1 ι1 H1 vs g1 r1 vx => ⟨ι1, S1, xs, r1, vx, hf xs S1 _ _ (fun d S' q => q.gr g1) q1⟩) q⟩
theorem ge_callB {id : String} {x : Str} {p pos : Pos} {e : Expr} {es : List Expr} {f : FL} {ga : GT (List D)} (hc : GC X (.builtin id) f) (hg : Gl X x) (hm : X.mg x = none) (hv : bootBuiltins x = some (.builtin id)) (ha : GA X (e :: es) ga) (hn : x ≠ "__name__" := by decide) (hdb : (x == ("__debug__" : Str)) = false := by decide)
    (he : starEach (e :: es) X.env = (false, eval e X.env) :: starEach es X.env := by rfl) (hpl : (backTo pos (starEach es X.env)).any (·.1) = false := by rfl) : GE X (.Call (.Name x p) (e :: es) [] pos) (gCall f ga) :=
  ⟨mono_call hc.mono ha.mono, pe_le (pe_callB hc.run hg hm hv ha.run hn hdb he hpl) fun _ _ _ => lo_call hc.mono ha.mono⟩
theorem ge_callT {T : String} {x : Str} {p pos : Pos} {e : Expr} {es : List Expr} {f : FL} {ga : GT (List D)} (hc : GC X (.type T) f) (hg : Gl X x) (hm : X.mg x = none) (hv : bootBuiltins x = some (.type T)) (ha : GA X (e :: es) ga) (hn : x ≠ "__name__" := by decide) (hdb : (x == ("__debug__" : Str)) = false := by decide)
    (he : starEach (e :: es) X.env = (false, eval e X.env) :: starEach es X.env := by rfl) (hpl : (backTo pos (starEach es X.env)).any (·.1) = false := by rfl) : GE X (.Call (.Name x p) (e :: es) [] pos) (gCall f ga) :=
  ⟨mono_call hc.mono ha.mono, pe_le (pe_callTy hc.run hg hm hv ha.run hn hdb he hpl) fun _ _ _ => lo_call hc.mono ha.mono⟩
def bLen : FL
  | [.tup ds], S, Q => Q (.int ds.length) S
  | [.frl ds], S, Q => Q (.int ds.length) S
  | [.loc l], S, Q => match S[l]? with
    | some (.lst ds) => Q (.int ds.length) S
    | _ => False
  | _, _, _ => False
theorem VRs.one {K : PySem.W.Frag} {ι : List Addr} {H : Hp} {d : D} {vs : List V} (r : VRs K ι H [d] vs) : ∃ v, vs = [v] ∧ VR K ι H d v := by
  cases r with
  | cons h t =>
    cases t
    exact ⟨_, rfl, h⟩
theorem VRs.two {K : PySem.W.Frag} {ι : List Addr} {H : Hp} {d e : D} {vs : List V} (r : VRs K ι H [d, e] vs) : ∃ v u, vs = [v, u] ∧ VR K ι H d v ∧ VR K ι H e u := by
  cases r with
  | cons h t =>
    obtain ⟨u, rfl, h2⟩ := t.one
    exact ⟨_, _, rfl, h, h2⟩
theorem gc_len : GC X (.builtin "len") bLen := by
  refine ⟨fun xs S Q Q' hq q => ?_, callr_data fun ι S H xs vs Q rs vx q => ?_⟩
  · unfold bLen at q ⊢
    repeat' (first | exact hq _ _ q | exact q.elim | split at q)
  · unfold bLen at q
    split at q
    · obtain ⟨v, rfl, h⟩ := vx.one
      cases h with
      | tup h1 r1 => exact ⟨_, call_len_seq, _, _, rfl, .inr h1, by rw [← r1.len]; exact q.val rs (.int _)⟩
    · obtain ⟨v, rfl, h⟩ := vx.one
      cases h with
      | frl h1 r1 => exact ⟨_, call_len_seq, _, _, rfl, .inl h1.seq, by rw [← r1.len]; exact q.val rs (.int _)⟩
    · split at q
      · rename_i e1
        obtain ⟨v, rfl, h⟩ := vx.one
        obtain ⟨a, vs, rfl, i1, h1, r1⟩ := h.list rs e1
        exact ⟨_, call_len_seq, _, _, rfl, .inl (SqL.of h1), by rw [← r1.len]; exact q.val rs (.int _)⟩
      · exact q.elim
    · exact q.elim
def bInt : FL
  | [.int i], S, Q => Q (.int i) S
  | [.bl b], S, Q => Q (.int (if b then 1 else 0)) S
  | _, _, _ => False
theorem gc_int : GC X (.type "int") bInt := by
  refine ⟨fun xs S Q Q' hq q => ?_, callr_data fun ι S H xs vs Q rs vx q => ?_⟩
  · unfold bInt at q ⊢
    repeat' (first | exact hq _ _ q | exact q.elim | split at q)
  · unfold bInt at q
    split at q
    · obtain ⟨v, rfl, h⟩ := vx.one
      cases h
      exact ⟨_, call_int1, .inl ⟨_, rfl, q.val rs (.int _)⟩⟩
    · obtain ⟨v, rfl, h⟩ := vx.one
      cases h
      exact ⟨_, call_int1, .inr ⟨_, rfl, q.val rs (.int _)⟩⟩
    · exact q.elim
def bAbs : FL
  | [.int i], S, Q => Q (.int (if i < 0 then -i else i)) S
  | _, _, _ => False
theorem gc_abs : GC X (.builtin "abs") bAbs := by
  refine ⟨fun xs S Q Q' hq q => ?_, callr_data fun ι S H xs vs Q rs vx q => ?_⟩
  · unfold bAbs at q ⊢
    repeat' (first | exact hq _ _ q | exact q.elim | split at q)
  · unfold bAbs at q
    split at q
    · obtain ⟨v, rfl, h⟩ := vx.one
      cases h
      exact ⟨_, call_abs, _, rfl, q.val rs (.int _)⟩
    · exact q.elim
def bMax : FL
  | [.int i, .int j], S, Q => Q (.int (if j > i then j else i)) S
  | _, _, _ => False
theorem gc_max (hc : X.calm = true) : GC X (.builtin "max") bMax := by
  refine ⟨fun xs S Q Q' hq q => ?_, callr_data fun ι S H xs vs Q rs vx q => ?_⟩
  · unfold bMax at q ⊢
    repeat' (first | exact hq _ _ q | exact q.elim | split at q)
  · unfold bMax at q
    split at q
    · obtain ⟨v, u, rfl, h, h2⟩ := vx.two
      cases h
      cases h2
      exact ⟨_, call_max2 hc, _, _, rfl, q.val rs (.int _)⟩
    · exact q.elim
def bMin : FL
  | [.int i, .int j], S, Q => Q (.int (if j < i then j else i)) S
  | _, _, _ => False
theorem gc_min (hc : X.calm = true) : GC X (.builtin "min") bMin := by
  refine ⟨fun xs S Q Q' hq q => ?_, callr_data fun ι S H xs vs Q rs vx q => ?_⟩
  · unfold bMin at q ⊢
    repeat' (first | exact hq _ _ q | exact q.elim | split at q)
  · unfold bMin at q
    split at q
    · obtain ⟨v, u, rfl, h, h2⟩ := vx.two
      cases h
      cases h2
      exact ⟨_, call_min2 hc, _, _, rfl, q.val rs (.int _)⟩
    · exact q.elim
def ints? : List D → Option (List Int)
  | [] => some []
  | .int i :: r => (ints? r).map (i :: ·)
  | _ :: _ => none
def bools? : List D → Option (List Bool)
  | [] => some []
  | .bl i :: r => (bools? r).map (i :: ·)
  | _ :: _ => none
theorem ints_rel {K : PySem.W.Frag} {ι : List Addr} {H : Hp} : ∀ {ds : List D} {vs : List V} {ns : List Int}, VRs K ι H ds vs → ints? ds = some ns → vs = ns.map V.int
  | [], _, _, .nil, e => by cases e; rfl
  | d :: ds, _, _, .cons h hs, e => by
    cases d with
    | int i =>
      unfold ints? at e
      cases q : ints? ds with
      | none => rw [q] at e; cases e
      | some m =>
        rw [q] at e
        cases e
        cases h
        rw [ints_rel hs q]
        rfl
    | _ => cases e
theorem bools_rel {K : PySem.W.Frag} {ι : List Addr} {H : Hp} : ∀ {ds : List D} {vs : List V} {ns : List Bool}, VRs K ι H ds vs → bools? ds = some ns → vs = ns.map V.bl
  | [], _, _, .nil, e => by cases e; rfl
  | d :: ds, _, _, .cons h hs, e => by
    cases d with
    | bl i =>
      unfold bools? at e
      cases q : bools? ds with
      | none => rw [q] at e; cases e
      | some m =>
        rw [q] at e
        cases e
        cases h
        rw [bools_rel hs q]
        rfl
    | _ => cases e
def bSum : FL
  | [.loc l], S, Q => match S[l]? with
    | some (.lst ds) => match ints? ds with
      | some ns => Q (.int ns.sum) S
      | none => False
    | _ => False
  | _, _, _ => False
theorem gc_sum (hc : X.calm = true) : GC X (.builtin "sum") bSum := by
  refine ⟨fun xs S Q Q' hq q => ?_, callr_data fun ι S H xs vs Q rs vx q => ?_⟩
  · unfold bSum at q ⊢
    repeat' (first | exact hq _ _ q | exact q.elim | split at q)
  · unfold bSum at q
    split at q
    · split at q
      · rename_i e1
        split at q
        · rename_i e2
          obtain ⟨v, rfl, h⟩ := vx.one
          obtain ⟨a, vs, rfl, i1, h1, r1⟩ := h.list rs e1
          rw [ints_rel r1 e2] at h1
          exact ⟨_, cr_sum hc, _, _, rfl, SqL.of h1, q.val rs (.int _)⟩
        · exact q.elim
      · exact q.elim
    · exact q.elim
def bAny : FL
  | [.loc l], S, Q => match S[l]? with
    | some (.lst ds) => match bools? ds with
      | some ns => Q (.bl (ns.any id)) S
      | none => False
    | _ => False
  | _, _, _ => False
theorem gc_any (hc : X.calm = true) : GC X (.builtin "any") bAny := by
  refine ⟨fun xs S Q Q' hq q => ?_, callr_data fun ι S H xs vs Q rs vx q => ?_⟩
  · unfold bAny at q ⊢
    repeat' (first | exact hq _ _ q | exact q.elim | split at q)
  · unfold bAny at q
    split at q
    · split at q
      · rename_i e1
        split at q
        · rename_i e2
          obtain ⟨v, rfl, h⟩ := vx.one
          obtain ⟨a, vs, rfl, i1, h1, r1⟩ := h.list rs e1
          rw [bools_rel r1 e2] at h1
          exact ⟨_, cr_any hc, _, _, rfl, SqL.of h1, q.val rs (.bl _)⟩
        · exact q.elim
      · exact q.elim
    · exact q.elim
def bAll : FL
  | [.loc l], S, Q => match S[l]? with
    | some (.lst ds) => match bools? ds with
      | some ns => Q (.bl (ns.all id)) S
      | none => False
    | _ => False
  | _, _, _ => False
theorem gc_all (hc : X.calm = true) : GC X (.builtin "all") bAll := by
  refine ⟨fun xs S Q Q' hq q => ?_, callr_data fun ι S H xs vs Q rs vx q => ?_⟩
  · unfold bAll at q ⊢
    repeat' (first | exact hq _ _ q | exact q.elim | split at q)
  · unfold bAll at q
    split at q
    · split at q
      · rename_i e1
        split at q
        · rename_i e2
          obtain ⟨v, rfl, h⟩ := vx.one
          obtain ⟨a, vs, rfl, i1, h1, r1⟩ := h.list rs e1
          rw [bools_rel r1 e2] at h1
          exact ⟨_, cr_all hc, _, _, rfl, SqL.of h1, q.val rs (.bl _)⟩
        · exact q.elim
      · exact q.elim
    · exact q.elim
def bTuple : FL
  | [.tup ds], S, Q => Q (.tup ds) S
  | [.frl ds], S, Q => Q (.tup ds) S
  | [.loc l], S, Q => match S[l]? with
    | some (.lst ds) => Q (.tup ds) S
    | _ => False
  | _, _, _ => False
theorem gc_tuple : GC X (.type "tuple") bTuple := by
  refine ⟨fun xs S Q Q' hq q => ?_, callr_data fun ι S H xs vs Q rs vx q => ?_⟩
  · unfold bTuple at q ⊢
    repeat' (first | exact hq _ _ q | exact q.elim | split at q)
  · unfold bTuple at q
    split at q
    · obtain ⟨v, rfl, h⟩ := vx.one
      cases h with
      | tup h1 r1 => exact ⟨_, call_tuple_of, _, _, rfl, .inr ⟨h1, q.val rs (.tup h1 r1)⟩⟩
    · obtain ⟨v, rfl, h⟩ := vx.one
      cases h with
      | frl h1 r1 => exact ⟨_, call_tuple_of, _, _, rfl, .inl ⟨h1.seq, fun p hp => q.tup rs r1 hp⟩⟩
    · split at q
      · rename_i e1
        obtain ⟨v, rfl, h⟩ := vx.one
        obtain ⟨a, vs, rfl, i1, h1, r1⟩ := h.list rs e1
        exact ⟨_, call_tuple_of, _, _, rfl, .inl ⟨SqL.of h1, fun p hp => q.tup rs r1 hp⟩⟩
      · exact q.elim
    · exact q.elim
def bList : FL
  | [.tup ds], S, Q => Q (.loc S.length) (S ++ [.lst ds])
  | [.frl ds], S, Q => Q (.loc S.length) (S ++ [.lst ds])
  | [.loc l], S, Q => match S[l]? with
    | some (.lst ds) => Q (.loc S.length) (S ++ [.lst ds])
    | _ => False
  | _, _, _ => False
theorem gc_list : GC X (.type "list") bList := by
  refine ⟨fun xs S Q Q' hq q => ?_, callr_data fun ι S H xs vs Q rs vx q => ?_⟩
  · unfold bList at q ⊢
    repeat' (first | exact hq _ _ q | exact q.elim | split at q)
  · unfold bList at q
    split at q
    · obtain ⟨v, rfl, h⟩ := vx.one
      cases h with
      | tup h1 r1 => exact ⟨_, call_list_of, _, _, rfl, .inr h1, fun p hp => q.lst rs r1 hp⟩
    · obtain ⟨v, rfl, h⟩ := vx.one
      cases h with
      | frl h1 r1 => exact ⟨_, call_list_of, _, _, rfl, .inl h1.seq, fun p hp => q.lst rs r1 hp⟩
    · split at q
      · rename_i e1
        obtain ⟨v, rfl, h⟩ := vx.one
        obtain ⟨a, vs, rfl, i1, h1, r1⟩ := h.list rs e1
        exact ⟨_, call_list_of, _, _, rfl, .inl (SqL.of h1), fun p hp => q.lst rs r1 hp⟩
      · exact q.elim
    · exact q.elim
/-- repr, where no representation is under way -/
def bRepr : FL
  | [x], S, Q => match toP x with
    | some d => d.hasDict = false ∧ d.depth ≤ 64 ∧ d.showable = true ∧ d.shown.length ≤ sizeLine ∧ Q (.str d.shown) S
    | none => False
  | _, _, _ => False
theorem gc_repr (hg : X.A.guards = some []) (hu : X.A.units + 200 < cLine) : GC X (.builtin "repr") bRepr := by
  refine ⟨fun xs S Q Q' hq q => ?_, fun pins s σ H vs us Q I rx q => ?_⟩
  · unfold bRepr at q ⊢
    split at q
    · split at q
      · exact ⟨q.1, q.2.1, q.2.2.1, q.2.2.2.1, hq _ _ q.2.2.2.2⟩
      · exact q
    · exact q
  · obtain ⟨ι, S, xs, rs, vx, q⟩ := q
    unfold bRepr at q
    split at q
    · split at q
      · rename_i x d e
        obtain ⟨q1, q2, q3, q4, q⟩ := q
        obtain ⟨v, rfl, h⟩ := vx.one
        obtain ⟨u, rfl, ru⟩ := Vals.one rx
        obtain ⟨as, rd⟩ := Dp.reads I d v u (toP_dp h e) ru
        cases v with
        | ref a =>
          cases ru
          refine repr_of_reads' rd q3 (fun z => by rw [q1] at z; cases z) hg (by omega) (fun _ _ e => e) (fun h' u tk hk => ?_) q4
          exact ⟨.str d.shown, H, I.kept hk, ⟨_, rfl⟩, q.val rs (.str _)⟩
        | non =>
          cases h
          cases e
          obtain rfl : u = Value.none := ru
          exact P.repr_of_none ⟨.str _, H, I.tok _, ⟨_, rfl⟩, by rw [PyData.shown_none] at q; exact q.val rs (.str _)⟩
        | bl b =>
          cases h
          cases e
          obtain rfl : u = Value.bool b := ru
          exact P.repr_of_bool ⟨.str _, H, I.tok _, ⟨_, rfl⟩, by rw [PyData.shown_bool] at q; exact q.val rs (.str _)⟩
        | int i =>
          obtain ⟨t, rfl⟩ := ru
          cases h
          cases e
          exact P.repr_of_int (by simpa [PyData.showable] using q3) ⟨.str _, H, I.tok _, ⟨_, rfl⟩, by rw [PyData.shown_int] at q; exact q.val rs (.str _)⟩
        | str z =>
          obtain ⟨t, rfl⟩ := ru
          cases h
          cases e
          exact P.repr_of_str ⟨.str _, H, I.tok _, ⟨_, rfl⟩, by rw [PyData.shown_str] at q; exact q.val rs (.str _)⟩ (by rw [PyData.shown_str] at q4; exact q4)
        | _ => cases h
      · exact q.elim
    · exact q.elim
end
end G
namespace G
open PySem PySem.Spec L2
section
variable {X : Cx} {a b c e : Expr} {pos : Pos}
/-! ### tests -/
def bTest (g : GT D) : GT Bool := fun γ S Q => g γ S fun d S1 => match d with
  | .bl k => Q k S1
  | _ => False
theorem mono_test {g : GT D} (h : Mono g) : Mono (bTest g) := fun γ S Q Q' hq q => h γ S _ _ (fun d S1 q1 => by
  split at q1
  · exact hq _ _ q1
  · exact q1) q
theorem lo_test {g : GT D} (h : Mono g) {σ : L2.St} {H : Hp} {Q : Bool → Hp → Prop} (q : loB X.K (bTest g) σ H Q) : lo X.K g σ H fun x H1 => ∃ k, x = .bl k ∧ Q k H1 := by
  obtain ⟨ι, γ, S, rl, rs, q⟩ := q
  refine ⟨ι, γ, S, rl, rs, h γ S _ _ (fun d S1 q1 ι1 H1 v g1 r1 vd => ?_) q⟩
  split at q1
  · cases vd
    exact ⟨_, rfl, q1 ι1 H1 g1 r1⟩
  · exact q1.elim
theorem gb_cmp {op : CmpOp} {f : F2} {ga gb : GT D} (ho : GO X (compareOp op) f) (ha : GE X a ga) (hb : GE X b gb) (hm : behindInMarks op b = false) : GB X (.Compare a [op] [b] pos) (bTest (gBin f ga gb)) := by
  have h := ge_cmp (pos := pos) ho ha hb hm
  exact ⟨mono_test h.mono, pt_le (pt_cmpR ho.run ha.run hb.run hm) fun σ H Q q => by
    obtain ⟨ι, γ, S, rl, rs, q⟩ := lo_test h.mono q
    exact lo_bin ho.mono ha.mono hb.mono ⟨ι, γ, S, rl, rs, q⟩⟩
/-- a datum's truth -/
def truD : D → Sto → Option Bool
  | .non, _ => some false
  | .bl k, _ => some k
  | .int i, _ => some (i != 0)
  | .tup ds, _ => some (!ds.isEmpty)
  | .frl ds, _ => some (!ds.isEmpty)
  | .loc l, S => match S[l]? with
    | some (.lst ds) => some (!ds.isEmpty)
    | some (.dic kvs) => some (!kvs.isEmpty)
    | _ => none
  | _, _ => none
theorem VRs.emp {K : PySem.W.Frag} {ι : List Addr} {H : Hp} {ds : List D} {vs : List V} (r : VRs K ι H ds vs) : ds.isEmpty = vs.isEmpty := by
  cases r <;> rfl
theorem truD_rel {K : PySem.W.Frag} {ι : List Addr} {H : Hp} {S : Sto} {d : D} {v : V} {k : Bool} (rs : SR K ι H S) (h : VR K ι H d v) (e : truD d S = some k) : TruV K v H k := by
  unfold truD at e
  split at e
  · cases h
    cases e
    rfl
  · cases h
    cases e
    rfl
  · cases h
    cases e
    rfl
  · cases h with
    | tup h1 r1 =>
      cases e
      exact .inr (.inl ⟨_, h1, by rw [r1.emp]⟩)
  · cases h with
    | frl h1 r1 =>
      cases e
      exact .inl ⟨_, h1.seq, by rw [r1.emp]⟩
  · split at e
    · rename_i e1
      obtain ⟨a, vs, rfl, i1, h1, r1⟩ := h.list rs e1
      cases e
      exact .inl ⟨_, SqL.of h1, by rw [r1.emp]⟩
    · rename_i e1
      cases e
      cases h with
      | loc h =>
      obtain ⟨b, e2, ks, h1, h2⟩ := rs.get e1
      rw [h] at e2
      cases e2
      refine .inr (.inr ⟨ks, h1, ?_⟩)
      cases h2 <;> rfl
    · cases e
  · cases e
def bTruth (g : GT D) : GT Bool := fun γ S Q => g γ S fun d S1 => match truD d S1 with
  | some k => Q k S1
  | none => False
theorem gb_truth {g : GT D} (h : GE X a g) (he : ∀ whole, isTrue a X.env whole = (do let v ← whole; standAt a.pos; holding [v] (truthy v)) := by intro _; rfl) : GB X a (bTruth g) := by
  refine ⟨fun γ S Q Q' hq q => h.mono γ S _ _ (fun d S1 q1 => ?_) q, pt_le (pt_truth h.run he) fun σ H Q q => ?_⟩
  · split at q1
    · exact hq _ _ q1
    · exact q1
  · obtain ⟨ι, γ, S, rl, rs, q⟩ := q
    refine ⟨ι, γ, S, rl, rs, h.mono γ S _ _ (fun d S1 q1 ι1 H1 v g1 r1 vd => ?_) q⟩
    split at q1
    · rename_i k e1
      exact ⟨k, truD_rel r1 vd e1, q1 ι1 H1 g1 r1⟩
    · exact q1.elim
def bNot (g : GT Bool) : GT Bool := fun γ S Q => g γ S fun k S1 => Q (!k) S1
theorem gb_not {g : GT Bool} (h : GB X a g) : GB X (.UnaryOp .Not a pos) (bNot g) :=
  ⟨fun γ S Q Q' hq q => h.mono γ S _ _ (fun _ _ q1 => hq _ _ q1) q, pt_le (pt_not h.run) fun σ H Q q => q⟩
structure GW (X : Cx) (e : Expr) (g : GT Bool) : Prop where
  mono : Mono g
  run : PW X e (loB X.K g)
theorem GW.gb {g : GT Bool} (h : GW X e g) : GB X e g := ⟨h.mono, h.run.pt⟩
theorem pw_le {t t' : TT} (h : PW X e t) (i : ∀ σ H Q, t' σ H Q → t σ H Q) : PW X e t' := ⟨fun w p s σ H Q I q => h.run w p s σ H Q I (i _ _ _ q)⟩
theorem gw_and1 {g : GT Bool} (h : GB X a g) : GW X (.BoolOp .And [a] pos) g := ⟨h.mono, pw_and1 h.run⟩
theorem gw_or1 {g : GT Bool} (h : GB X a g) : GW X (.BoolOp .Or [a] pos) g := ⟨h.mono, pw_or1 h.run⟩
def bAnd (g h : GT Bool) : GT Bool := fun γ S Q => g γ S fun k S1 => if k = true then h γ S1 Q else Q false S1
def bOr (g h : GT Bool) : GT Bool := fun γ S Q => g γ S fun k S1 => if k = true then Q true S1 else h γ S1 Q
theorem gw_and {g h : GT Bool} {rest : List Expr} (ha : GB X a g) (hb : GW X (.BoolOp .And (b :: rest) pos) h) : GW X (.BoolOp .And (a :: b :: rest) pos) (bAnd g h) := by
  refine ⟨fun γ S Q Q' hq q => ha.mono γ S _ _ (fun k S1 q1 => ?_) q, pw_le (pw_and ha.run hb.run) fun σ H Q q => ?_⟩
  · cases k with
    | true => exact hb.mono γ S1 Q Q' hq q1
    | false => exact hq _ _ q1
  · obtain ⟨ι, γ, S, rl, rs, q⟩ := q
    refine ⟨ι, γ, S, rl, rs, ha.mono γ S _ _ (fun k S1 q1 ι1 H1 g1 r1 => ?_) q⟩
    cases k with
    | true => exact ⟨ι1, γ, S1, rl.gr g1, r1, hb.mono γ S1 _ _ (fun d S' q => q.gr g1) q1⟩
    | false => exact q1 ι1 H1 g1 r1
theorem gw_or {g h : GT Bool} {rest : List Expr} (ha : GB X a g) (hb : GW X (.BoolOp .Or (b :: rest) pos) h) : GW X (.BoolOp .Or (a :: b :: rest) pos) (bOr g h) := by
  refine ⟨fun γ S Q Q' hq q => ha.mono γ S _ _ (fun k S1 q1 => ?_) q, pw_le (pw_or ha.run hb.run) fun σ H Q q => ?_⟩
  · cases k with
    | true => exact hq _ _ q1
    | false => exact hb.mono γ S1 Q Q' hq q1
  · obtain ⟨ι, γ, S, rl, rs, q⟩ := q
    refine ⟨ι, γ, S, rl, rs, ha.mono γ S _ _ (fun k S1 q1 ι1 H1 g1 r1 => ?_) q⟩
    cases k with
    | true => exact q1 ι1 H1 g1 r1
    | false => exact ⟨ι1, γ, S1, rl.gr g1, r1, hb.mono γ S1 _ _ (fun d S' q => q.gr g1) q1⟩
/-- as values -/
def gAnd (g h : GT D) : GT D := fun γ S Q => g γ S fun x S1 => match x with
  | .bl true => h γ S1 Q
  | .bl false => Q (.bl false) S1
  | _ => False
def gOr (g h : GT D) : GT D := fun γ S Q => g γ S fun x S1 => match x with
  | .bl true => Q (.bl true) S1
  | .bl false => h γ S1 Q
  | _ => False
theorem ge_one {op} {g : GT D} (h : GE X a g) : GE X (.BoolOp op [a] pos) g := ⟨h.mono, pe_one h.run⟩
theorem ge_and {g h : GT D} {rest : List Expr} (ha : GE X a g) (hb : GE X (.BoolOp .And (b :: rest) pos) h) : GE X (.BoolOp .And (a :: b :: rest) pos) (gAnd g h) := by
  refine ⟨fun γ S Q Q' hq q => ha.mono γ S _ _ (fun k S1 q1 => ?_) q, pe_le (pe_and ha.run hb.run) fun σ H Q q => ?_⟩
  · split at q1
    · exact hb.mono γ S1 Q Q' hq q1
    · exact hq _ _ q1
    · exact q1
  · obtain ⟨ι, γ, S, rl, rs, q⟩ := q
    refine ⟨ι, γ, S, rl, rs, ha.mono γ S _ _ (fun k S1 q1 ι1 H1 v g1 r1 vk => ?_) q⟩
    split at q1
    · cases vk
      exact ⟨true, rfl, ι1, γ, S1, rl.gr g1, r1, hb.mono γ S1 _ _ (fun d S' q => q.gr g1) q1⟩
    · cases vk
      exact ⟨false, rfl, q1 ι1 H1 _ g1 r1 (.bl _)⟩
    · exact q1.elim
theorem ge_or {g h : GT D} {rest : List Expr} (ha : GE X a g) (hb : GE X (.BoolOp .Or (b :: rest) pos) h) : GE X (.BoolOp .Or (a :: b :: rest) pos) (gOr g h) := by
  refine ⟨fun γ S Q Q' hq q => ha.mono γ S _ _ (fun k S1 q1 => ?_) q, pe_le (pe_or ha.run hb.run) fun σ H Q q => ?_⟩
  · split at q1
    · exact hq _ _ q1
    · exact hb.mono γ S1 Q Q' hq q1
    · exact q1
  · obtain ⟨ι, γ, S, rl, rs, q⟩ := q
    refine ⟨ι, γ, S, rl, rs, ha.mono γ S _ _ (fun k S1 q1 ι1 H1 v g1 r1 vk => ?_) q⟩
    split at q1
    · cases vk
      exact ⟨true, rfl, q1 ι1 H1 _ g1 r1 (.bl _)⟩
    · cases vk
      exact ⟨false, rfl, ι1, γ, S1, rl.gr g1, r1, hb.mono γ S1 _ _ (fun d S' q => q.gr g1) q1⟩
    · exact q1.elim
def gNot (g : GT D) : GT D := fun γ S Q => g γ S fun x S1 => match truD x S1 with
  | some k => Q (.bl (!k)) S1
  | none => False
theorem ge_not {g : GT D} (ha : GE X a g) : GE X (.UnaryOp .Not a pos) (gNot g) := by
  refine ⟨fun γ S Q Q' hq q => ha.mono γ S _ _ (fun k S1 q1 => ?_) q, pe_le (pe_notT ha.run) fun σ H Q q => ?_⟩
  · split at q1
    · exact hq _ _ q1
    · exact q1
  · obtain ⟨ι, γ, S, rl, rs, q⟩ := q
    refine ⟨ι, γ, S, rl, rs, ha.mono γ S _ _ (fun k S1 q1 ι1 H1 v g1 r1 vk => ?_) q⟩
    split at q1
    · rename_i e1
      exact ⟨_, truD_rel r1 vk e1, q1 ι1 H1 _ g1 r1 (.bl _)⟩
    · exact q1.elim
def gIf (t : GT Bool) (g h : GT D) : GT D := fun γ S Q => t γ S fun k S1 => if k = true then g γ S1 Q else h γ S1 Q
theorem ge_if {t : GT Bool} {g h : GT D} (ht : GB X c t) (ha : GE X a g) (hb : GE X b h) : GE X (.IfExp c a b pos) (gIf t g h) := by
  refine ⟨fun γ S Q Q' hq q => ht.mono γ S _ _ (fun k S1 q1 => ?_) q, pe_le (pe_ifExp ht.run ha.run hb.run) fun σ H Q q => ?_⟩
  · cases k with
    | true => exact ha.mono γ S1 Q Q' hq q1
    | false => exact hb.mono γ S1 Q Q' hq q1
  · obtain ⟨ι, γ, S, rl, rs, q⟩ := q
    refine ⟨ι, γ, S, rl, rs, ht.mono γ S _ _ (fun k S1 q1 ι1 H1 g1 r1 => ?_) q⟩
    cases k with
    | true => exact ⟨ι1, γ, S1, rl.gr g1, r1, ha.mono γ S1 _ _ (fun d S' q => q.gr g1) q1⟩
    | false => exact ⟨ι1, γ, S1, rl.gr g1, r1, hb.mono γ S1 _ _ (fun d S' q => q.gr g1) q1⟩
/-! ### methods of lists -/
abbrev FM := D → List D → Sto → (D → Sto → Prop) → Prop
def MonoM (f : FM) : Prop := ∀ x xs S (Q Q' : D → Sto → Prop), (∀ d S', Q d S' → Q' d S') → f x xs S Q → f x xs S Q'
def loM (K : PySem.W.Frag) (f : FM) : V → List V → Hp → VK → Prop := fun v vs H Q => ∃ ι S x xs, SR K ι H S ∧ VR K ι H x v ∧ VRs K ι H xs vs ∧ f x xs S (Aft K ι H Q)
structure GM (X : Cx) (id : String) (f : FM) : Prop where
  mono : MonoM f
  run : MtR X id (loM X.K f)
theorem mtr_data {id : String} {f : FM} (h : ∀ (ι : List Addr) (S : Sto) (H : Hp) (x : D) (xs : List D) (v : V) (vs : List V) (Q : VK), SR X.K ι H S → VR X.K ι H x v → VRs X.K ι H xs vs → f x xs S (Aft X.K ι H Q) → ∃ r', MtR X id r' ∧ r' v vs H Q) : MtR X id (loM X.K f) := fun pins s σ H v vs u us Q I r1 r2 q => by
  obtain ⟨ι, S, x, xs, rs, vx, vxs, q⟩ := q
  obtain ⟨r', h1, h2⟩ := h ι S H x xs v vs Q rs vx vxs q
  exact h1 pins s σ H v vs u us Q I r1 r2 h2
def isL (x : D) (S : Sto) : Bool := match x with
  | .loc l => match S[l]? with
    | some (.lst _) => true
    | _ => false
  | _ => false
theorem isL_ty {K : PySem.W.Frag} {ι : List Addr} {H : Hp} {S : Sto} {x : D} {v : V} (rs : SR K ι H S) (h : VR K ι H x v) (e : isL x S = true) : tyV K "list" v H := by
  unfold isL at e
  split at e
  · split at e
    · rename_i e1
      obtain ⟨a, vs, rfl, i1, h1, r1⟩ := h.list rs e1
      exact .inl ⟨rfl, _, SqL.of h1⟩
    · cases e
  · cases e
def gMeth (f : FM) (go : GT D) (ga : GT (List D)) : GT D := fun γ S Q => go γ S fun x S1 => isL x S1 = true ∧ ga γ S1 fun xs S2 => f x xs S2 Q
theorem mono_meth {f : FM} {go : GT D} {ga : GT (List D)} (hf : MonoM f) (ho : Mono go) (ha : Mono ga) : Mono (gMeth f go ga) := fun γ S Q Q' hq q =>
  ho γ S _ _ (fun x S1 q1 => ⟨q1.1, ha γ S1 _ _ (fun xs S2 q2 => hf x xs S2 Q Q' hq q2) q1.2⟩) q
theorem lo_meth {f : FM} {go : GT D} {ga : GT (List D)} (hf : MonoM f) (ho : Mono go) (ha : Mono ga) {σ : L2.St} {H : Hp} {Q : VK} (q : lo X.K (gMeth f go ga) σ H Q) :
    tBM X.K "list" (loM X.K f) (lo X.K go) (loL X.K ga) σ H Q := by
  obtain ⟨ι, γ, S, rl, rs, q⟩ := q
  exact ⟨ι, γ, S, rl, rs, ho γ S _ _ (fun x S1 q1 ι1 H1 v g1 r1 vx => ⟨isL_ty r1 vx q1.1, ι1, γ, S1, rl.gr g1, r1, ha γ S1 _ _ (fun xs S2 q2 ι2 H2 vs g2 r2 vxs =>
    ⟨ι2, S2, x, xs, r2, vx.gr g2, vxs, hf x xs S2 _ _ (fun d S' q => q.gr (g1.trans g2)) q2⟩) q1.2⟩) q⟩
theorem ge_meth {id : String} {name : Str} {o : Expr} {es : List Expr} {apos cpos : Pos} {f : FM} {go : GT D} {ga : GT (List D)} (slot : PySem.Slot "list" name id) (hty : typeOf (.builtin id) = pure (.type "method_descriptor")) (hm : GM X id f) (ho : GE X o go) (ha : GA X (e :: es) ga)
    (hbase : attributeBase o name X.env (eval o X.env) = eval o X.env := by rfl)
    (hfew : ((backTo cpos (starEach (e :: es) X.env)).all (fun x => !x.1) && (backToKw cpos (keywordEach [] X.env)).all (fun x => x.1.isSome) && decide ((e :: es).length + ([] : List Keyword).length + (if ([] : List Keyword).isEmpty then 0 else 1) < 30)) = true := by rfl)
    (hline : (apos.endLine == cpos.line) = true := by rfl) (hs : starEach (e :: es) X.env = (false, eval e X.env) :: starEach es X.env := by rfl) (hplain : (backTo cpos (starEach es X.env)).any (·.1) = false := by rfl) :
    GE X (.Call (.Attribute o name apos) (e :: es) [] cpos) (gMeth f go ga) :=
  ⟨mono_meth hm.mono ho.mono ha.mono, pe_le (pe_bm PySem.F.plainAttrs_list slot hty hm.run ho.run ha.run hbase hfew hline hs hplain) fun _ _ _ => lo_meth hm.mono ho.mono ha.mono⟩
theorem ge_meth0 {id : String} {name : Str} {o : Expr} {apos cpos : Pos} {f : FM} {go : GT D} (slot : PySem.Slot "list" name id) (hty : typeOf (.builtin id) = pure (.type "method_descriptor")) (hm : GM X id f) (ho : GE X o go)
    (hbase : attributeBase o name X.env (eval o X.env) = eval o X.env := by rfl) (hline : (apos.endLine == cpos.line) = true := by rfl) :
    GE X (.Call (.Attribute o name apos) [] [] cpos) (gMeth f go aNil) := by
  refine ⟨mono_meth hm.mono ho.mono (ga_nil (X := X)).mono, pe_le (pe_bm0 PySem.F.plainAttrs_list slot hty hm.run ho.run hbase hline) fun σ H Q q => ?_⟩
  obtain ⟨ι, γ, S, rl, rs, q⟩ := q
  exact ⟨ι, γ, S, rl, rs, ho.mono γ S _ _ (fun x S1 q1 ι1 H1 v g1 r1 vx => ⟨isL_ty r1 vx q1.1, ι1, S1, x, [], r1, vx, .nil, hm.mono x [] S1 _ _ (fun d S' q => q.gr g1) q1.2⟩) q⟩
def mAppend : FM
  | .loc l, [y], S, Q => match S[l]? with
    | some (.lst ds) => ds.length < sizeLine ∧ Q .non (S.set l (.lst (ds ++ [y])))
    | _ => False
  | _, _, _, _ => False
theorem gm_append : GM X "list.append" mAppend := by
  refine ⟨fun x xs S Q Q' hq q => ?_, mtr_data fun ι S H x xs v vs Q rs vx vxs q => ?_⟩
  · unfold mAppend at q ⊢
    repeat' (first | exact ⟨q.1, hq _ _ q.2⟩ | exact q.elim | split at q)
  · unfold mAppend at q
    split at q
    · split at q
      · rename_i e1
        obtain ⟨a, us, rfl, i1, h1, r1⟩ := vx.list rs e1
        obtain ⟨w, rfl, hw⟩ := vxs.one
        obtain ⟨g, r2⟩ := rs.lput i1 h1 (r1.app (.cons hw .nil))
        exact ⟨_, mt_append, _, _, _, rfl, rfl, h1, by rw [← r1.len]; exact q.1, q.2 ι _ _ g r2 .non⟩
      · exact q.elim
    · exact q.elim
def mPop : FM
  | .loc l, [], S, Q => match S[l]? with
    | some (.lst ds) => match ds[ds.length - 1]? with
      | some d => Q d (S.set l (.lst ds.dropLast))
      | none => False
    | _ => False
  | _, _, _, _ => False
theorem gm_pop : GM X "list.pop" mPop := by
  refine ⟨fun x xs S Q Q' hq q => ?_, mtr_data fun ι S H x xs v vs Q rs vx vxs q => ?_⟩
  · unfold mPop at q ⊢
    repeat' (first | exact hq _ _ q | exact q.elim | split at q)
  · unfold mPop at q
    split at q
    · split at q
      · rename_i e1
        split at q
        · rename_i e2
          obtain ⟨a, us, rfl, i1, h1, r1⟩ := vx.list rs e1
          cases vxs
          rw [r1.len] at e2
          obtain ⟨w, h2, hw⟩ := r1.get e2
          obtain ⟨g, r2⟩ := rs.lput i1 h1 r1.dropLast
          exact ⟨_, mt_pop, _, _, _, rfl, rfl, h1, h2, q ι _ _ g r2 (hw.gr g)⟩
        · exact q.elim
      · exact q.elim
    · exact q.elim
def mInsert : FM
  | .loc l, [.int i, y], S, Q => match S[l]? with
    | some (.lst ds) => (ds.length < sizeLine ∧ 0 ≤ i ∧ i < 2 ^ 63) ∧ Q .non (S.set l (.lst (ds.take i.toNat ++ [y] ++ ds.drop i.toNat)))
    | _ => False
  | _, _, _, _ => False
theorem gm_insert : GM X "list.insert" mInsert := by
  refine ⟨fun x xs S Q Q' hq q => ?_, mtr_data fun ι S H x xs v vs Q rs vx vxs q => ?_⟩
  · unfold mInsert at q ⊢
    repeat' (first | exact ⟨q.1, hq _ _ q.2⟩ | exact q.elim | split at q)
  · unfold mInsert at q
    split at q
    · split at q
      · rename_i e1
        obtain ⟨a, us, rfl, i1, h1, r1⟩ := vx.list rs e1
        obtain ⟨w, w2, rfl, hw, hw2⟩ := vxs.two
        cases hw
        obtain ⟨g, r2⟩ := rs.lput i1 h1 (((r1.take _).app (.cons hw2 .nil)).app (r1.drop _))
        exact ⟨_, mt_insert, _, _, _, _, rfl, rfl, h1, by rw [← r1.len]; exact q.1.1, q.1.2.1, q.1.2.2, q.2 ι _ _ g r2 .non⟩
      · exact q.elim
    · exact q.elim
end
end G
namespace G
open PySem PySem.Spec L2
section
variable {X : Cx} {a b c e : Expr} {pos : Pos}
/-! ### targets -/
abbrev GG := D → Sl → Sto → (Sl → Sto → Prop) → Prop
abbrev GGs := List D → Sl → Sto → (Sl → Sto → Prop) → Prop
def loG (K : PySem.W.Frag) (g : GG) : TG := fun v σ H Q => ∃ ι γ S d, LR K ι H γ σ ∧ SR K ι H S ∧ VR K ι H d v ∧ g d γ S (AftS K ι H Q)
def loGs (K : PySem.W.Frag) (g : GGs) : TGs := fun vs σ H Q => ∃ ι γ S ds, LR K ι H γ σ ∧ SR K ι H S ∧ VRs K ι H ds vs ∧ g ds γ S (AftS K ι H Q)
structure GTg (X : Cx) (tg : Expr) (g : GG) : Prop where
  mono : ∀ d γ S (Q Q' : Sl → Sto → Prop), (∀ γ S, Q γ S → Q' γ S) → g d γ S Q → g d γ S Q'
  run : PG X tg (loG X.K g)
structure GTgs (X : Cx) (tg : List Expr) (g : GGs) : Prop where
  mono : ∀ d γ S (Q Q' : Sl → Sto → Prop), (∀ γ S, Q γ S → Q' γ S) → g d γ S Q → g d γ S Q'
  run : PGs X tg (loGs X.K g)
theorem pg_le {tg : Expr} {t t' : TG} (h : PG X tg t) (i : ∀ v σ H Q, t' v σ H Q → t v σ H Q) : PG X tg t' := ⟨fun p s σ H v u Q I r q => h.run p s σ H v u Q I r (i _ _ _ _ q)⟩
theorem pgs_le {tg : List Expr} {t t' : TGs} (h : PGs X tg t) (i : ∀ v σ H Q, t' v σ H Q → t v σ H Q) : PGs X tg t' := ⟨fun p s σ H v u Q I r q => h.run p s σ H v u Q I r (i _ _ _ _ q)⟩
def tName (i : Nat) : GG := fun d γ S Q => Q (γ.set i (some d)) S
theorem gt_name {i : Nat} (h : PG X a (gName i)) : GTg X a (tName i) := by
  refine ⟨fun d γ S Q Q' hq q => hq _ _ q, pg_le h fun v σ H Q q => ?_⟩
  obtain ⟨ι, γ, S, d, rl, rs, vd, q⟩ := q
  exact q ι H _ .refl rs (rl.set vd i)
def tNil : GGs := fun ds γ S Q => ds = [] ∧ Q γ S
def tCons (g : GG) (h : GGs) : GGs := fun ds γ S Q => match ds with
  | d :: r => g d γ S fun γ1 S1 => h r γ1 S1 Q
  | [] => False
theorem gts_nil : GTgs X [] tNil := by
  refine ⟨fun d γ S Q Q' hq q => ⟨q.1, hq _ _ q.2⟩, pgs_le pgs_nil fun v σ H Q q => ?_⟩
  obtain ⟨ι, γ, S, ds, rl, rs, vd, e, q⟩ := q
  subst e
  cases vd
  exact ⟨rfl, q ι H _ .refl rs rl⟩
theorem gts_cons {es : List Expr} {g : GG} {h : GGs} (ha : GTg X a g) (hb : GTgs X es h) (hs : (assignEach (a :: es) X.env).map (·.2) = assign a X.env :: (assignEach es X.env).map (·.2) := by rfl) : GTgs X (a :: es) (tCons g h) := by
  refine ⟨fun ds γ S Q Q' hq q => ?_, pgs_le (pgs_cons ha.run hb.run hs) fun vs σ H Q q => ?_⟩
  · unfold tCons at q ⊢
    split at q
    · exact ha.mono _ γ S _ _ (fun γ1 S1 q1 => hb.mono _ γ1 S1 Q Q' hq q1) q
    · exact q
  · obtain ⟨ι, γ, S, ds, rl, rs, vd, q⟩ := q
    unfold tCons at q
    split at q
    · cases vd with
      | cons h1 h2 =>
      exact ⟨_, _, rfl, ι, γ, S, _, rl, rs, h1, ha.mono _ γ S _ _ (fun γ1 S1 q1 ι1 H1 σ1 g1 r1 l1 => ⟨ι1, γ1, S1, _, l1, r1, h2.gr g1, hb.mono _ γ1 S1 _ _ (fun γ2 S2 q => q.gr g1) q1⟩) q⟩
    · exact q.elim
def tTup (n : Nat) (g : GGs) : GG := fun d γ S Q => match d with
  | .tup ds => ds.length = n ∧ g ds γ S Q
  | _ => False
theorem gt_tup {es : List Expr} {k : Nat} {g : GGs} {n : Nat} (hc : X.calm = true) (h : GTgs X es g) (hn : (assignEach es X.env).length = n := by rfl) (hst : (assignEach es X.env).findIdx? (·.1) = none := by rfl) : GTg X (.Tuple es k pos) (tTup n g) := by
  refine ⟨fun d γ S Q Q' hq q => ?_, pg_le (pg_tup hc h.run hn hst) fun v σ H Q q => ?_⟩
  · unfold tTup at q ⊢
    split at q
    · exact ⟨q.1, h.mono _ γ S Q Q' hq q.2⟩
    · exact q
  · obtain ⟨ι, γ, S, d, rl, rs, vd, q⟩ := q
    unfold tTup at q
    split at q
    · cases vd with
      | tup h1 h2 => exact ⟨_, _, rfl, h1, by rw [← h2.len]; exact q.1, ι, γ, S, _, rl, rs, h2, q.2⟩
    · exact q.elim
def dSet (x y d : D) (S : Sto) (Q : Sto → Prop) : Prop := match x, y with
  | .loc l, .int k => match S[l]? with
    | some (.lst ds) => match ixN ds.length k with
      | some j => Q (S.set l (.lst (ds.set j d)))
      | none => False
    | _ => False
  | _, _ => False
theorem mono_set {x y d : D} {S : Sto} {Q Q' : Sto → Prop} (hq : ∀ S, Q S → Q' S) (q : dSet x y d S Q) : dSet x y d S Q' := by
  unfold dSet at q ⊢
  repeat' (first | exact hq _ q | exact q.elim | split at q)
theorem pset_data : PSet X (fun o i v H Q => ∃ ι S x y d, SR X.K ι H S ∧ VR X.K ι H x o ∧ VR X.K ι H y i ∧ VR X.K ι H d v ∧ dSet x y d S fun S' => ∀ H', Gr X.K ι H ι H' → SR X.K ι H' S' → Q H') := by
  intro pins s σ H o i v ov iv u Q I r1 r2 r3 h
  obtain ⟨ι, S, x, y, d, rs, vx, vy, vd, q⟩ := h
  unfold dSet at q
  split at q
  · split at q
    · rename_i e1
      split at q
      · rename_i e2
        obtain ⟨a, us, rfl, i1, h1, w1⟩ := vx.list rs e1
        cases vy
        obtain ⟨g, rp⟩ := rs.lput i1 h1 (w1.set vd _)
        exact set_list pins s σ H _ _ v ov iv u Q I r1 r2 r3 ⟨_, _, _, _, rfl, rfl, h1, by rw [← w1.len]; exact e2, q _ g rp⟩
      · exact q.elim
    · exact q.elim
  · exact q.elim
def tSub (go gi : GT D) : GG := fun d γ S Q => go γ S fun x S1 => gi γ S1 fun y S2 => dSet x y d S2 fun S3 => Q γ S3
theorem gt_sub {o i : Expr} {go gi : GT D} (ho : GE X o go) (hi : GE X i gi)
    (ha : ∀ v, assign (.Subscript o i pos) X.env v = (do let ov ← holding [v] (eval o X.env); let iv ← holding [v, ov] (eval i X.env); standAt pos; holding [v, ov, iv] (setItem ov iv v); release [v, ov, iv] []) := by intro _; rfl) : GTg X (.Subscript o i pos) (tSub go gi) := by
  refine ⟨fun d γ S Q Q' hq q => ho.mono γ S _ _ (fun x S1 q1 => hi.mono γ S1 _ _ (fun y S2 q2 => mono_set (fun _ q3 => hq _ _ q3) q2) q1) q, pg_le (pg_sub ho.run hi.run pset_data ha) fun v σ H Q q => ?_⟩
  obtain ⟨ι, γ, S, d, rl, rs, vd, q⟩ := q
  exact ⟨ι, γ, S, rl, rs, ho.mono γ S _ _ (fun x S1 q1 ι1 H1 v1 g1 r1 vx => ⟨ι1, γ, S1, rl.gr g1, r1, hi.mono γ S1 _ _ (fun y S2 q2 ι2 H2 v2 g2 r2 vy =>
    ⟨ι2, S2, x, y, d, r2, vx.gr g2, vy, vd.gr (g1.trans g2), mono_set (fun S3 q3 H3 g3 r3 => q3 ι2 H3 σ ((g1.trans g2).trans g3) r3 (rl.gr ((g1.trans g2).trans g3))) q2⟩) q1⟩) q⟩
/-! ### statements -/
variable {st : Stmt} {rest sts : List Stmt}
def sNext : GTS := fun E γ S => E.nx γ S
def sSeq (g h : GTS) : GTS := fun E γ S => g { E with nx := h E } γ S
theorem gss_nil : GSs X [] sNext := by
  refine ⟨fun γ S A B le q => le.nx _ _ q, pss_le pss_nil fun E σ H q => ?_⟩
  obtain ⟨ι, γ, S, rl, rs, q⟩ := q
  exact q ι H σ .refl rs rl
theorem gss_cons {g h : GTS} (ha : GS X st g) (hb : GSs X rest h) : GSs X (st :: rest) (sSeq g h) := by
  refine ⟨fun γ S A B le q => ha.mono γ S { A with nx := h A } { B with nx := h B } ⟨fun γ1 S1 q1 => hb.mono γ1 S1 A B le q1, le.rt, le.bk, le.ct⟩ q, pss_le (pss_cons ha.run hb.run) fun E σ H q => ?_⟩
  obtain ⟨ι, γ, S, rl, rs, q⟩ := q
  exact ⟨ι, γ, S, rl, rs, ha.mono γ S { AftE X.K ι H E with nx := h (AftE X.K ι H E) } _ ⟨fun γ1 S1 q1 ι1 H1 σ1 g1 r1 l1 => ⟨ι1, γ1, S1, l1, r1, hb.mono γ1 S1 _ _ (AftE.gr g1) q1⟩, fun _ _ q => q, fun _ _ q => q, fun _ _ q => q⟩ q⟩
theorem gss_one {g : GTS} (ha : GS X st g) : GSs X [st] g := ⟨ha.mono, pss_one ha.run⟩
def sExpr (g : GT D) : GTS := fun E γ S => g γ S fun _ S1 => E.nx γ S1
theorem gs_expr {g : GT D} (h : GE X e g) (hs : swapsWith e none pos.line X.env = pure false := by rfl) : GS X (.Expr e pos) (sExpr g) := by
  refine ⟨fun γ S A B le q => h.mono γ S _ _ (fun _ S1 q1 => le.nx _ _ q1) q, ps_le (ps_expr h.run hs) fun E σ H q => ?_⟩
  obtain ⟨ι, γ, S, rl, rs, q⟩ := q
  exact ⟨ι, γ, S, rl, rs, h.mono γ S _ _ (fun _ S1 q1 ι1 H1 v g1 r1 _ => q1 ι1 H1 σ g1 r1 (rl.gr g1)) q⟩
def sRet (g : GT D) : GTS := fun E γ S => g γ S E.rt
theorem gs_ret {g : GT D} (h : GE X e g) : GS X (.Return (some e) pos) (sRet g) :=
  ⟨fun γ S A B le q => h.mono γ S _ _ (fun _ S1 q1 => le.rt _ _ q1) q, ps_le (ps_ret h.run) fun E σ H q => q⟩
def sRetN : GTS := fun E _ S => E.rt .non S
theorem gs_retN : GS X (.Return none pos) sRetN :=
  ⟨fun γ S A B le q => le.rt _ _ q, ps_le ps_retN fun E σ H ⟨ι, γ, S, rl, rs, q⟩ => q ι H .non .refl rs .non⟩
def sBrk : GTS := fun E γ S => E.bk γ S
def sCnt : GTS := fun E γ S => E.ct γ S
theorem gs_pass : GS X (.Pass pos) sNext := ⟨fun γ S A B le q => le.nx _ _ q, ps_le ps_pass fun E σ H ⟨ι, γ, S, rl, rs, q⟩ => q ι H σ .refl rs rl⟩
theorem gs_brk : GS X (.Break pos) sBrk := ⟨fun γ S A B le q => le.bk _ _ q, ps_le ps_break fun E σ H ⟨ι, γ, S, rl, rs, q⟩ => q ι H σ .refl rs rl⟩
theorem gs_cnt : GS X (.Continue pos) sCnt := ⟨fun γ S A B le q => le.ct _ _ q, ps_le ps_continue fun E σ H ⟨ι, γ, S, rl, rs, q⟩ => q ι H σ .refl rs rl⟩
def sIf (t : GT Bool) (g h : GTS) : GTS := fun E γ S => t γ S fun k S1 => if k = true then g E γ S1 else h E γ S1
theorem gs_if {as bs : List Stmt} {t : GT Bool} {g h : GTS} (ht : GB X c t) (ha : GSs X as g) (hb : GSs X bs h) : GS X (.If c as bs pos) (sIf t g h) := by
  refine ⟨fun γ S A B le q => ht.mono γ S _ _ (fun k S1 q1 => ?_) q, ps_le (ps_if ht.run ha.run hb.run) fun E σ H q => ?_⟩
  · cases k with
    | true => exact ha.mono γ S1 A B le q1
    | false => exact hb.mono γ S1 A B le q1
  · obtain ⟨ι, γ, S, rl, rs, q⟩ := q
    refine ⟨ι, γ, S, rl, rs, ht.mono γ S _ _ (fun k S1 q1 ι1 H1 g1 r1 => ?_) q⟩
    cases k with
    | true => exact ⟨ι1, γ, S1, rl.gr g1, r1, ha.mono γ S1 _ _ (AftE.gr g1) q1⟩
    | false => exact ⟨ι1, γ, S1, rl.gr g1, r1, hb.mono γ S1 _ _ (AftE.gr g1) q1⟩
def sAsg (g : GT D) (t : GG) : GTS := fun E γ S => g γ S fun x S1 => t x γ S1 E.nx
theorem asg_le {g : GT D} {t : GG} (hg : Mono g) (ht : ∀ d γ S (Q Q' : Sl → Sto → Prop), (∀ γ S, Q γ S → Q' γ S) → t d γ S Q → t d γ S Q') {E : Ends} {σ : L2.St} {H : Hp} (q : loS X.K (sAsg g t) E σ H) : tAsg (lo X.K g) (loG X.K t) E σ H := by
  obtain ⟨ι, γ, S, rl, rs, q⟩ := q
  exact ⟨ι, γ, S, rl, rs, hg γ S _ _ (fun x S1 q1 ι1 H1 v g1 r1 vx => ⟨ι1, γ, S1, x, rl.gr g1, r1, vx, ht x γ S1 _ _ (fun γ2 S2 q => q.gr g1) q1⟩) q⟩
theorem gs_asg {tg : Expr} {g : GT D} {t : GG} (he : GE X e g) (hg : GTg X tg t) (hs : swapsWithSole [tg] e pos.line X.env = pure false := by rfl) (hw : swappedStores [tg] e X.env = pure none := by rfl)
    (h1 : (assignEach [tg] X.env).map (·.2) = [assign tg X.env] := by rfl) : GS X (.Assign [tg] e pos) (sAsg g t) :=
  ⟨fun γ S A B le q => he.mono γ S _ _ (fun x S1 q1 => hg.mono x γ S1 _ _ le.nx q1) q, ps_le (ps_asg he.run hg.run hs hw h1) fun E σ H q => asg_le he.mono hg.mono q⟩
theorem tname_mono {i : Nat} : ∀ d γ S (Q Q' : Sl → Sto → Prop), (∀ γ S, Q γ S → Q' γ S) → tName i d γ S Q → tName i d γ S Q' := fun _ _ _ _ _ hq q => hq _ _ q
theorem set_le {i : Nat} {g : GT D} (hg : Mono g) {E : Ends} {σ : L2.St} {H : Hp} (q : loS X.K (sAsg g (tName i)) E σ H) : tAsg (lo X.K g) (gName i) E σ H := by
  obtain ⟨ι, γ, S, rl, rs, q⟩ := q
  exact ⟨ι, γ, S, rl, rs, hg γ S _ _ (fun x S1 q1 ι1 H1 v g1 r1 vx => q1 ι1 H1 _ g1 r1 ((rl.gr g1).set vx i)) q⟩
theorem gs_set0 {i : Nat} {x : Str} {g : GT D} {pos' : Pos} (he : GE X e g) (h : PS X (.Assign [.Name x pos'] e pos) (tAsg (lo X.K g) (gName i))) : GS X (.Assign [.Name x pos'] e pos) (sAsg g (tName i)) :=
  ⟨fun γ S A B le q => he.mono γ S _ _ (fun x S1 q1 => le.nx _ _ q1) q, ps_le h fun E σ H q => set_le he.mono q⟩
structure GIp (X : Cx) (op : Operator) (f : F2) : Prop where
  mono : Mono2 f
  run : PIp X op (lo2 X.K f)
theorem gip_data {op : Operator} {f : F2} (h : ∀ (ι : List Addr) (S : Sto) (H : Hp) (x y : D) (v u : V) (Q : VK), SR X.K ι H S → VR X.K ι H x v → VR X.K ι H y u → f x y S (Aft X.K ι H Q) → ∃ r', PIp X op r' ∧ r' v u H Q) : PIp X op (lo2 X.K f) := fun pins s σ H v u ov ou Q I rx ry q => by
  obtain ⟨ι, S, x, y, rs, vx, vy, q⟩ := q
  obtain ⟨r', h1, h2⟩ := h ι S H x y v u Q rs vx vy q
  exact h1 pins s σ H v u ov ou Q I rx ry h2
def dIadd : F2
  | .int i, .int j, S, Q => Q (.int (i + j)) S
  | _, _, _, _ => False
theorem gi_add : GIp X .Add dIadd := by
  refine ⟨fun x y S Q Q' hq q => ?_, gip_data fun ι S H x y v u Q rs vx vy q => ?_⟩
  · unfold dIadd at q ⊢
    split at q
    · exact hq _ _ q
    · exact q.elim
  · unfold dIadd at q
    split at q
    · cases vx
      cases vy
      exact ⟨_, ip_add, _, _, rfl, rfl, q.val rs (.int _)⟩
    · exact q.elim
def dIsub : F2
  | .int i, .int j, S, Q => Q (.int (i - j)) S
  | _, _, _, _ => False
theorem gi_sub : GIp X .Sub dIsub := by
  refine ⟨fun x y S Q Q' hq q => ?_, gip_data fun ι S H x y v u Q rs vx vy q => ?_⟩
  · unfold dIsub at q ⊢
    split at q
    · exact hq _ _ q
    · exact q.elim
  · unfold dIsub at q
    split at q
    · cases vx
      cases vy
      exact ⟨_, ip_sub, _, _, rfl, rfl, q.val rs (.int _)⟩
    · exact q.elim
def sAug (i : Nat) (g : GT D) (f : F2) : GTS := fun E γ S => match γ[i]? with
  | some (some x) => g γ S fun y S1 => f x y S1 fun z S2 => E.nx (γ.set i (some z)) S2
  | _ => False
theorem gs_aug0 {i : Nat} {x : Str} {g : GT D} {f : F2} {op : Operator} {pos' : Pos} (he : GE X e g) (hf : GIp X op f) (h : PS X (.AugAssign (.Name x pos') op e pos) (tAug i (lo X.K g) (lo2 X.K f))) : GS X (.AugAssign (.Name x pos') op e pos) (sAug i g f) := by
  refine ⟨fun γ S A B le q => ?_, ps_le h fun E σ H q => ?_⟩
  · unfold sAug at q ⊢
    split at q
    · exact he.mono γ S _ _ (fun y S1 q1 => hf.mono _ y S1 _ _ (fun z S2 q2 => le.nx _ _ q2) q1) q
    · exact q
  · obtain ⟨ι, γ, S, rl, rs, q⟩ := q
    unfold sAug at q
    split at q
    · rename_i d e1
      obtain ⟨v, h1, h2⟩ := rl.2 i d e1
      exact ⟨v, h1, ι, γ, S, rl, rs, he.mono γ S _ _ (fun y S1 q1 ι1 H1 u g1 r1 vy => ⟨ι1, S1, d, y, r1, h2.gr g1, vy, hf.mono d y S1 _ _ (fun z S2 q2 ι2 H2 w g2 r2 vz => q2 ι2 H2 _ (g1.trans g2) r2 ((rl.gr (g1.trans g2)).set vz i)) q1⟩) q⟩
    · exact q.elim
def sAugS (go gi g : GT D) (f : F2) : GTS := fun E γ S => go γ S fun o S1 => gi γ S1 fun i S2 => dGet o i S2 fun x S3 => g γ S3 fun y S4 => f x y S4 fun z S5 => dSet o i z S5 fun S6 => E.nx γ S6
theorem gs_augS {o i : Expr} {go gi g : GT D} {f : F2} {op : Operator} {tpos : Pos} (ho : GE X o go) (hi : GE X i gi) (he : GE X e g) (hf : GIp X op f)
    (ha : ∀ ov iv new, augStore i ov iv new = (do holding [new, ov, iv] (setItem ov iv new); release [new, ov, iv] []; pure .next) := by intros; rfl) : GS X (.AugAssign (.Subscript o i tpos) op e pos) (sAugS go gi g f) := by
  refine ⟨fun γ S A B le q => ho.mono γ S _ _ (fun x S1 q1 => hi.mono γ S1 _ _ (fun y S2 q2 => mono_get _ _ S2 _ _ (fun z S3 q3 => he.mono γ S3 _ _ (fun w S4 q4 => hf.mono _ _ S4 _ _ (fun t S5 q5 => mono_set (fun S6 q6 => le.nx _ _ q6) q5) q4) q3) q2) q1) q,
    ps_le (ps_augS ho.run hi.run pget_data he.run hf.run pset_data ha) fun E σ H q => ?_⟩
  obtain ⟨ι, γ, S, rl, rs, q⟩ := q
  refine ⟨ι, γ, S, rl, rs, ho.mono γ S _ _ (fun x S1 q1 ι1 H1 v1 g1 r1 vx => ⟨ι1, γ, S1, rl.gr g1, r1, hi.mono γ S1 _ _ (fun y S2 q2 ι2 H2 v2 g2 r2 vy => ?_) q1⟩) q⟩
  refine ⟨ι2, S2, x, y, r2, vx.gr g2, vy, mono_get _ _ S2 _ _ (fun z S3 q3 ι3 H3 v3 g3 r3 vz => ?_) q2⟩
  refine ⟨ι3, γ, S3, ((rl.gr g1).gr g2).gr g3, r3, he.mono γ S3 _ _ (fun w S4 q4 ι4 H4 v4 g4 r4 vw => ?_) q3⟩
  refine ⟨ι4, S4, z, w, r4, vz.gr g4, vw, hf.mono _ _ S4 _ _ (fun t S5 q5 ι5 H5 v5 g5 r5 vt => ?_) q4⟩
  have g35 := (g3.trans g4).trans g5
  exact ⟨ι5, S5, x, y, t, r5, (vx.gr g2).gr g35, vy.gr g35, vt, mono_set (fun S6 q6 H6 g6 r6 => q6 ι5 H6 σ (((g1.trans g2).trans g35).trans g6) r6 (rl.gr (((g1.trans g2).trans g35).trans g6))) q5⟩
end
end G
namespace G
open PySem PySem.Spec L2
/-- what a loop walks: the items, and what must stand so long -/
structure Items where
  ok : Sto → Prop
  xs : List D
abbrev GIt := Sl → Sto → (Items → Sto → Prop) → Prop
/-- the iterator gives these items -/
def JR (K : PySem.W.Frag) (ι : List Addr) (H : Hp) (it : Items) (J : It) : Prop := ∀ (i : Nat) (ι2 : List Addr) (H2 : Hp) (S2 : Sto), Gr K ι H ι2 H2 → SR K ι2 H2 S2 → it.ok S2 →
  (∀ d, it.xs[i]? = some d → J.go i H2 ∧ ∀ v H3, J.yld i H2 v H3 → Gr K ι2 H2 ι2 H3 ∧ SR K ι2 H3 S2 ∧ VR K ι2 H3 d v) ∧ (it.xs.length ≤ i → J.stop i H2)
theorem JR.gr {K : PySem.W.Frag} {ι ι' : List Addr} {H H' : Hp} {it : Items} {J : It} (h : JR K ι H it J) (g : Gr K ι H ι' H') : JR K ι' H' it J := fun i a b c g2 => h i a b c (g.trans g2)
def AftI (K : PySem.W.Frag) (ι : List Addr) (H : Hp) (R : It → Hp → Prop) (it : Items) (S' : Sto) : Prop := ∀ ι' H' J, Gr K ι H ι' H' → SR K ι' H' S' → JR K ι' H' it J → R J H'
def loI (K : PySem.W.Frag) (w : GIt) : TI := fun σ H R => ∃ ι γ S, LR K ι H γ σ ∧ SR K ι H S ∧ w γ S (AftI K ι H R)
structure GIter (X : Cx) (tg iter : Expr) (w : GIt) : Prop where
  mono : ∀ γ S (Q Q' : Items → Sto → Prop), (∀ d S', Q d S' → Q' d S') → w γ S Q → w γ S Q'
  run : PI X tg iter (loI X.K w)
theorem pi_le {X : Cx} {tg iter : Expr} {t t' : TI} (h : PI X tg iter t) (i : ∀ σ H Q, t' σ H Q → t σ H Q) : PI X tg iter t' := ⟨fun p s σ H Q I q => h.run p s σ H Q I (i _ _ _ q)⟩
theorem AftI.gr {K : PySem.W.Frag} {ι ι' : List Addr} {H H' : Hp} {R : It → Hp → Prop} {it : Items} {S' : Sto} (h : AftI K ι H R it S') (g : Gr K ι H ι' H') : AftI K ι' H' R it S' := fun i h' J g2 => h i h' J (g.trans g2)
section
variable {X : Cx} {tg iter : Expr} {pos : Pos}
/-- a tuple, a list, the script -/
def wSeq (g : GT D) : GIt := fun γ S Q => g γ S fun x S1 => match x with
  | .tup ds => Q ⟨fun _ => True, ds⟩ S1
  | .frl ds => Q ⟨fun _ => True, ds⟩ S1
  | .loc l => match S1[l]? with
    | some (.lst ds) => Q ⟨fun S => S[l]? = some (.lst ds), ds⟩ S1
    | _ => False
  | _ => False
theorem pi_seq {l : Expr} {tl : TE} (hl : PE X l tl) : PI X tg l (fun σ H R => tl σ H fun x H1 => ∃ a, x = .ref a ∧ (((∃ xs, SqL X.K H1 a xs) ∧ R (Itl X.K a) H1) ∨ ((∃ xs, SqT X.K H1 a xs) ∧ R (Itt X.K a) H1))) := by
  constructor
  intro pins s σ H R I h
  refine thn (hl.run pins s σ H _ I h) fun v s1 ⟨x, H1, I1, r1, a, e, q1⟩ => ?_
  subst e
  cases r1
  have up : ∀ {o : Obj} {b : Addr} {u : Obj}, s1.heap.get? b = some u → (s1.heap.push o).get? b = some u := fun e => Heap.get?_push_of_some _ e
  have fr : ∀ b ∈ [s1.heap.objs.size], FpOk X pins H1 b := fun b hb => by
    rw [List.mem_singleton.mp hb]
    exact I1.fpOk (Nat.le_refl _) (I1.hok.fresh (Nat.le_refl _))
  rcases q1 with ⟨⟨xs, hq⟩, q⟩ | ⟨⟨xs, hq⟩, q⟩
  · obtain ⟨its, rv, p, hz⟩ := I1.list hq
    exact wpAny_pyIter_list p.isList ⟨s1.heap.objs.size, [s1.heap.objs.size], _, _, H1, rfl, I1.kept (t' := s1.toks) fun b o e => up e, turn_list a _, ⟨_, Heap.get?_push_size _ rfl, rfl, rfl⟩, fr, q⟩
  · obtain ⟨its, rv, p, hz⟩ := I1.tuple hq
    exact wpAny_pyIter_tuple (show s1.heap.IsTuple a its.toArray from p) ⟨s1.heap.objs.size, [s1.heap.objs.size], _, _, H1, rfl, I1.kept (t' := s1.toks) fun b o e => up e, turn_tuple a _, ⟨_, Heap.get?_push_size _ rfl, rfl, rfl⟩, fr, q⟩
theorem jr_of {K : PySem.W.Frag} {ι : List Addr} {H : Hp} {it : Items} {J : It} (h : ∀ (i : Nat) (ι2 : List Addr) (H2 : Hp) (S2 : Sto), Gr K ι H ι2 H2 → SR K ι2 H2 S2 → it.ok S2 →
    (∀ d, it.xs[i]? = some d → J.go i H2 ∧ ∀ v H3, J.yld i H2 v H3 → H3 = H2 ∧ VR K ι2 H2 d v) ∧ (it.xs.length ≤ i → J.stop i H2)) : JR K ι H it J := fun i ι2 H2 S2 g r o => by
  obtain ⟨h1, h2⟩ := h i ι2 H2 S2 g r o
  refine ⟨fun d e => ⟨(h1 d e).1, fun v H3 y => ?_⟩, h2⟩
  obtain ⟨rfl, w⟩ := (h1 d e).2 v H3 y
  exact ⟨.refl, r, w⟩
theorem jr_tup {K : PySem.W.Frag} {ι : List Addr} {H : Hp} {ds : List D} {vs : List V} {a : Addr} {ok : Sto → Prop} (h : SqT K H a vs) (r : VRs K ι H ds vs) : JR K ι H ⟨ok, ds⟩ (Itt K a) := jr_of fun i ι2 H2 S2 g _ _ => by
  have h2 := g.tup _ _ h
  refine ⟨fun d e => ?_, fun e => ⟨vs, h2, by rw [← r.len]; exact e⟩⟩
  obtain ⟨v, e2, w⟩ := (r.gr g).get e
  refine ⟨⟨vs, v, h2, e2⟩, fun u H3 y => ⟨y.1, ?_⟩⟩
  have e3 := y.2 vs h2
  rw [e2] at e3
  cases e3
  exact w
theorem jr_frl {K : PySem.W.Frag} {ι : List Addr} {H : Hp} {ds : List D} {vs : List V} {a : Addr} {ok : Sto → Prop} (h : FrL K H a vs) (r : VRs K ι H ds vs) : JR K ι H ⟨ok, ds⟩ (Itl K a) := jr_of fun i ι2 H2 S2 g _ _ => by
  have h2 := (g.frl _ _ h).seq
  refine ⟨fun d e => ?_, fun e => ⟨vs, h2, by rw [← r.len]; exact e⟩⟩
  obtain ⟨v, e2, w⟩ := (r.gr g).get e
  refine ⟨⟨vs, v, h2, e2⟩, fun u H3 y => ⟨y.1, ?_⟩⟩
  have e3 := y.2 vs h2
  rw [e2] at e3
  cases e3
  exact w
theorem jr_loc {K : PySem.W.Frag} {ι : List Addr} {H : Hp} {ds : List D} {l : Nat} {a : Addr} (h : ι[l]? = some a) : JR K ι H ⟨fun S => S[l]? = some (.lst ds), ds⟩ (Itl K a) := jr_of fun i ι2 H2 S2 g rs ok => by
  obtain ⟨b, e0, vs, h1, r⟩ := rs.get ok
  have e1 := g.loc _ _ h
  rw [e1] at e0
  cases e0
  have h2 : SqL K H2 a vs := SqL.of h1
  refine ⟨fun d e => ?_, fun e => ⟨vs, h2, by rw [← r.len]; exact e⟩⟩
  obtain ⟨v, e2, w⟩ := r.get e
  refine ⟨⟨vs, v, h2, e2⟩, fun u H3 y => ⟨y.1, ?_⟩⟩
  have e3 := y.2 vs h2
  rw [e2] at e3
  cases e3
  exact w
theorem gi_seq {l : Expr} {g : GT D} (h : GE X l g) : GIter X tg l (wSeq g) := by
  refine ⟨fun γ S Q Q' hq q => h.mono γ S _ _ (fun x S1 q1 => ?_) q, pi_le (pi_seq h.run) fun σ H R q => ?_⟩
  · repeat' (first | exact hq _ _ q1 | exact q1.elim | split at q1)
  · obtain ⟨ι, γ, S, rl, rs, q⟩ := q
    refine ⟨ι, γ, S, rl, rs, h.mono γ S _ _ (fun x S1 q1 ι1 H1 v g1 r1 vx => ?_) q⟩
    split at q1
    · cases vx with
      | tup h1 w => exact ⟨_, rfl, .inr ⟨⟨_, h1⟩, q1 ι1 H1 _ g1 r1 (jr_tup h1 w)⟩⟩
    · cases vx with
      | frl h1 w => exact ⟨_, rfl, .inl ⟨⟨_, h1.seq⟩, q1 ι1 H1 _ g1 r1 (jr_frl h1 w)⟩⟩
    · split at q1
      · rename_i e1
        obtain ⟨a, vs, rfl, i1, h1, w⟩ := vx.list r1 e1
        exact ⟨_, rfl, .inl ⟨⟨_, SqL.of h1⟩, q1 ι1 H1 _ g1 r1 (jr_loc i1)⟩⟩
      · exact q1.elim
    · exact q1.elim
def rng (lo : Int) (n : Nat) : List D := (List.range n).map fun i => .int (lo + (i : Nat))
theorem jr_rng {K : PySem.W.Frag} {ι : List Addr} {H : Hp} {ok : Sto → Prop} {lo : Int} {n : Nat} : JR K ι H ⟨ok, rng lo n⟩ (Itr lo n) := jr_of fun i ι2 H2 S2 g _ _ => by
  refine ⟨fun d e => ?_, fun e => ?_⟩
  · have hi : i < n := by
      have := (List.getElem?_eq_some_iff.mp e).1
      simpa [rng] using this
    refine ⟨hi, fun u H3 y => ⟨y.1, ?_⟩⟩
    rw [y.2]
    have e2 : d = .int (lo + (i : Nat)) := by
      have e3 : (rng lo n)[i]? = some d := e
      unfold rng at e3
      rw [List.getElem?_map, List.getElem?_range hi] at e3
      exact (Option.some.inj e3).symm
    rw [e2]
    exact .int _
  · show n ≤ i
    have e' : (rng lo n).length ≤ i := e
    simpa [rng] using e'
def wRange1 (ga : GT (List D)) : GIt := fun γ S Q => ga γ S fun xs S1 => match xs with
  | [.int j] => (-(2 ^ 62) ≤ j ∧ j < 2 ^ 62) ∧ Q ⟨fun _ => True, rng 0 j.toNat⟩ S1
  | _ => False
def wRange2 (ga : GT (List D)) : GIt := fun γ S Q => ga γ S fun xs S1 => match xs with
  | [.int i, .int j] => (-(2 ^ 62) ≤ i ∧ i < 2 ^ 62 ∧ -(2 ^ 62) ≤ j ∧ j < 2 ^ 62) ∧ Q ⟨fun _ => True, rng i (j - i).toNat⟩ S1
  | _ => False
theorem gi_range1 {a : Expr} {ga : GT (List D)} {p : Pos} (hg : Gl X "range") (hm : X.mg "range" = none) (ha : GA X [a] ga) (hs : starEach [a] X.env = [(false, eval a X.env)] := by rfl) : GIter X tg (.Call (.Name "range" p) [a] [] pos) (wRange1 ga) := by
  refine ⟨fun γ S Q Q' hq q => ha.mono γ S _ _ (fun x S1 q1 => ?_) q, pi_le (pi_range1 hg hm ha.run hs) fun σ H R q => ?_⟩
  · split at q1
    · exact ⟨q1.1, hq _ _ q1.2⟩
    · exact q1
  · obtain ⟨ι, γ, S, rl, rs, q⟩ := q
    refine ⟨ι, γ, S, rl, rs, ha.mono γ S _ _ (fun xs S1 q1 ι1 H1 vs g1 r1 vx => ?_) q⟩
    split at q1
    · obtain ⟨v, rfl, h⟩ := vx.one
      cases h
      exact ⟨_, rfl, q1.1.1, q1.1.2, q1.2 ι1 H1 _ g1 r1 jr_rng⟩
    · exact q1.elim
theorem gi_range2 {a b : Expr} {ga : GT (List D)} {p : Pos} (hg : Gl X "range") (hm : X.mg "range" = none) (ha : GA X [a, b] ga) (hs : starEach [a, b] X.env = [(false, eval a X.env), (false, eval b X.env)] := by rfl) (hs2 : starEach [b] X.env = [(false, eval b X.env)] := by rfl) :
    GIter X tg (.Call (.Name "range" p) [a, b] [] pos) (wRange2 ga) := by
  refine ⟨fun γ S Q Q' hq q => ha.mono γ S _ _ (fun x S1 q1 => ?_) q, pi_le (pi_range2 hg hm ha.run hs hs2) fun σ H R q => ?_⟩
  · split at q1
    · exact ⟨q1.1, hq _ _ q1.2⟩
    · exact q1
  · obtain ⟨ι, γ, S, rl, rs, q⟩ := q
    refine ⟨ι, γ, S, rl, rs, ha.mono γ S _ _ (fun xs S1 q1 ι1 H1 vs g1 r1 vx => ?_) q⟩
    split at q1
    · obtain ⟨v, u, rfl, h, h2⟩ := vx.two
      cases h
      cases h2
      exact ⟨_, _, rfl, q1.1, q1.2 ι1 H1 _ g1 r1 jr_rng⟩
    · exact q1.elim
/-! ### for -/
def each (ok : Sto → Prop) (t : GG) (body : GTS) (E : GEnds) : List D → Sl → Sto → Prop
  | [] => fun γ S => ok S ∧ E.nx γ S
  | d :: ds => fun γ S => ok S ∧ t d γ S fun γ1 S1 => body { nx := each ok t body E ds, rt := E.rt, bk := E.nx, ct := each ok t body E ds } γ1 S1
theorem each_mono {ok : Sto → Prop} {t : GG} {body : GTS} (ht : ∀ d γ S (Q Q' : Sl → Sto → Prop), (∀ γ S, Q γ S → Q' γ S) → t d γ S Q → t d γ S Q') (hb : MonoS body) {A B : GEnds} (le : A.Le B) :
    ∀ (ds : List D) (γ : Sl) (S : Sto), each ok t body A ds γ S → each ok t body B ds γ S
  | [], γ, S, q => ⟨q.1, le.nx _ _ q.2⟩
  | d :: ds, γ, S, q => ⟨q.1, ht d γ S _ _ (fun γ1 S1 q1 => hb γ1 S1 { nx := each ok t body A ds, rt := A.rt, bk := A.nx, ct := each ok t body A ds } _ ⟨each_mono ht hb le ds, le.rt, le.nx, each_mono ht hb le ds⟩ q1) q.2⟩
def sFor (w : GIt) (t : GG) (body : GTS) : GTS := fun E γ S => w γ S fun it S1 => each it.ok t body E it.xs γ S1
theorem gs_for {body : List Stmt} {w : GIt} {t : GG} {g : GTS} (hp : PassesOwn (model X.prog X.w) X.A X.env X.xe) (hc : X.calm = true) (hi : GIter X tg iter w) (hg : GTg X tg t) (hb : GSs X body g)
    (hs : ∀ x, foldedSetIterable iter X.env x = pure x := by intro _; rfl) : GS X (.For tg iter body [] pos) (sFor w t g) := by
  refine ⟨fun γ S A B le q => hi.mono γ S _ _ (fun it S1 q1 => each_mono hg.mono hb.mono le _ _ _ q1) q, ps_le (ps_for hp hc hi.run hg.run hb.run hs) fun E σ H q => ?_⟩
  obtain ⟨ι, γ, S, rl, rs, q⟩ := q
  refine ⟨ι, γ, S, rl, rs, hi.mono γ S _ _ (fun it S1 q1 ι1 H1 J g1 r1 jr => ?_) q⟩
  refine ⟨fun i m σ2 H2 => m = it.xs.length - i ∧ i ≤ it.xs.length ∧ ∃ ι2 γ2 S2, Gr X.K ι1 H1 ι2 H2 ∧ LR X.K ι2 H2 γ2 σ2 ∧ SR X.K ι2 H2 S2 ∧ each it.ok t g (AftE X.K ι H E) (it.xs.drop i) γ2 S2,
    ⟨it.xs.length, rfl, Nat.zero_le _, ι1, γ, S1, .refl, rl.gr g1, r1, q1⟩, ?_⟩
  rintro i m σ2 H2 ⟨rfl, hle, ι2, γ2, S2, g2, l2, r2, q2⟩
  by_cases hlt : i < it.xs.length
  · rw [List.drop_eq_getElem_cons hlt] at q2
    obtain ⟨ok, q2⟩ := q2
    have jj := (jr i ι2 H2 S2 g2 r2 ok).1 _ (List.getElem?_eq_getElem hlt)
    refine .inr ⟨jj.1, fun σ' H' => ∃ ι2 γ2 S2, Gr X.K ι1 H1 ι2 H' ∧ LR X.K ι2 H' γ2 σ' ∧ SR X.K ι2 H' S2 ∧ each it.ok t g (AftE X.K ι H E) (it.xs.drop (i + 1)) γ2 S2, fun σ' H' z => ⟨it.xs.length - (i + 1), by omega, rfl, hlt, z⟩, fun v H3 y => ?_⟩
    obtain ⟨g3, r3, v3⟩ := jj.2 v H3 y
    refine ⟨ι2, γ2, S2, it.xs[i], l2.gr g3, r3, v3, hg.mono _ γ2 S2 _ _ (fun γ4 S4 q4 ι4 H4 σ4 g4 r4 l4 => ?_) q2⟩
    refine ⟨ι4, γ4, S4, l4, r4, hb.mono γ4 S4 _ _ ?_ q4⟩
    have g14 := ((g1.trans g2).trans g3).trans g4
    have go : ∀ γ5 S5, each it.ok t g (AftE X.K ι H E) (it.xs.drop (i + 1)) γ5 S5 → AftS X.K ι4 H4 (fun σ' H' => ∃ ι2 γ2 S2, Gr X.K ι1 H1 ι2 H' ∧ LR X.K ι2 H' γ2 σ' ∧ SR X.K ι2 H' S2 ∧ each it.ok t g (AftE X.K ι H E) (it.xs.drop (i + 1)) γ2 S2) γ5 S5 :=
      fun γ5 S5 q5 ι5 H5 σ5 g5 r5 l5 => ⟨ι5, γ5, S5, ((g2.trans g3).trans g4).trans g5, l5, r5, q5⟩
    exact ⟨go, fun d S5 q5 => q5.gr g14, fun γ5 S5 q5 => q5.gr g14, go⟩
  · have e : it.xs.drop i = [] := List.drop_eq_nil_of_le (by omega)
    rw [e] at q2
    exact .inl ⟨(jr i ι2 H2 S2 g2 r2 q2.1).2 (by omega), q2.2 ι2 H2 σ2 (g1.trans g2) r2 l2⟩
/-! ### while -/
def wh (t : GT Bool) (body : GTS) (E : GEnds) : Nat → Sl → Sto → Prop
  | 0 => fun _ _ => False
  | n + 1 => fun γ S => t γ S fun k S1 => if k = true then body { nx := wh t body E n, rt := E.rt, bk := E.nx, ct := wh t body E n } γ S1 else E.nx γ S1
theorem wh_mono {t : GT Bool} {body : GTS} (ht : Mono t) (hb : MonoS body) {A B : GEnds} (le : A.Le B) : ∀ (n : Nat) (γ : Sl) (S : Sto), wh t body A n γ S → wh t body B n γ S
  | 0, _, _, q => q
  | n + 1, γ, S, q => ht γ S _ _ (fun k S1 q1 => by
    cases k with
    | true => exact hb γ S1 { nx := wh t body A n, rt := A.rt, bk := A.nx, ct := wh t body A n } _ ⟨wh_mono ht hb le n, le.rt, le.nx, wh_mono ht hb le n⟩ q1
    | false => exact le.nx _ _ q1) q
def sWhile (t : GT Bool) (body : GTS) : GTS := fun E γ S => ∃ n, wh t body E n γ S
theorem gs_while {c : Expr} {body : List Stmt} {t : GT Bool} {g : GTS} (hp : PassesOwn (model X.prog X.w) X.A X.env X.xe) (hc : GB X c t) (hb : GSs X body g) : GS X (.While c body [] pos) (sWhile t g) := by
  refine ⟨fun γ S A B le ⟨n, q⟩ => ⟨n, wh_mono hc.mono hb.mono le n γ S q⟩, ps_le (ps_while hp hc.run hb.run) fun E σ H q => ?_⟩
  obtain ⟨ι, γ, S, rl, rs, n, q⟩ := q
  refine ⟨fun m σ2 H2 => ∃ ι2 γ2 S2, Gr X.K ι H ι2 H2 ∧ LR X.K ι2 H2 γ2 σ2 ∧ SR X.K ι2 H2 S2 ∧ wh t g (AftE X.K ι H E) m γ2 S2, ⟨n, ι, γ, S, .refl, rl, rs, q⟩, ?_⟩
  rintro m σ2 H2 ⟨ι2, γ2, S2, g2, l2, r2, q2⟩
  cases m with
  | zero => exact q2.elim
  | succ m =>
    refine ⟨ι2, γ2, S2, l2, r2, hc.mono γ2 S2 _ _ (fun k S3 q3 ι3 H3 g3 r3 => ?_) q2⟩
    cases k with
    | false => exact q3 ι3 H3 σ2 (g2.trans g3) r3 (l2.gr g3)
    | true =>
      refine ⟨fun σ' H' => ∃ ι2 γ2 S2, Gr X.K ι H ι2 H' ∧ LR X.K ι2 H' γ2 σ' ∧ SR X.K ι2 H' S2 ∧ wh t g (AftE X.K ι H E) m γ2 S2, fun σ' H' z => ⟨m, Nat.lt_succ_self m, z⟩, ι3, γ2, S3, l2.gr g3, r3, hb.mono γ2 S3 _ _ ?_ q3⟩
      have go : ∀ γ5 S5, wh t g (AftE X.K ι H E) m γ5 S5 → AftS X.K ι3 H3 (fun σ' H' => ∃ ι2 γ2 S2, Gr X.K ι H ι2 H' ∧ LR X.K ι2 H' γ2 σ' ∧ SR X.K ι2 H' S2 ∧ wh t g (AftE X.K ι H E) m γ2 S2) γ5 S5 :=
        fun γ5 S5 q5 ι5 H5 σ5 g5 r5 l5 => ⟨ι5, γ5, S5, (g2.trans g3).trans g5, l5, r5, q5⟩
      exact ⟨go, fun d S5 q5 => q5.gr (g2.trans g3), fun γ5 S5 q5 => q5.gr (g2.trans g3), go⟩
end
end G
namespace G
open PySem PySem.Spec L2
/-! ### comprehensions -/
/-- a comprehension's target: names alone, all of them among the forgotten ones -/
structure Tgt (K : PySem.W.Frag) (vs : List Nat) (g : TG) (gd : GG) : Prop where
  mono : ∀ d γ S (Q Q' : Sl → Sto → Prop), (∀ γ S, Q γ S → Q' γ S) → gd d γ S Q → gd d γ S Q'
  run : ∀ (ι : List Addr) (γ : Sl) (S : Sto) (σ : L2.St) (H : Hp) (d : D) (v : V) (Q : L2.St → Hp → Prop) (P : Sl → Sto → Prop), LR K ι H γ σ → VR K ι H d v → gd d γ S P →
    (∀ γ' σ', LR K ι H γ' σ' → wipe σ' vs = wipe σ vs → P γ' S → Q σ' H) → g v σ H Q
structure Tgts (K : PySem.W.Frag) (vs : List Nat) (g : TGs) (gd : GGs) : Prop where
  mono : ∀ d γ S (Q Q' : Sl → Sto → Prop), (∀ γ S, Q γ S → Q' γ S) → gd d γ S Q → gd d γ S Q'
  run : ∀ (ι : List Addr) (γ : Sl) (S : Sto) (σ : L2.St) (H : Hp) (ds : List D) (us : List V) (Q : L2.St → Hp → Prop) (P : Sl → Sto → Prop), LR K ι H γ σ → VRs K ι H ds us → gd ds γ S P →
    (∀ γ' σ', LR K ι H γ' σ' → wipe σ' vs = wipe σ vs → P γ' S → Q σ' H) → g us σ H Q
theorem wipe_set {σ : L2.St} {i : Nat} {x : Option V} : ∀ {vs : List Nat}, i ∈ vs → wipe (σ.set i x) vs = wipe σ vs
  | [], h => absurd h List.not_mem_nil
  | v :: vs, h => by
    show (wipe (σ.set i x) vs).set v none = (wipe σ vs).set v none
    by_cases hv : v = i
    · subst hv
      have e : ∀ ws : List Nat, (wipe (σ.set v x) ws).set v none = (wipe σ ws).set v none := by
        intro ws
        induction ws with
        | nil => exact List.set_set ..
        | cons w ws ih =>
          show ((wipe (σ.set v x) ws).set w none).set v none = ((wipe σ ws).set w none).set v none
          by_cases hw : w = v
          · subst hw
            rw [List.set_set, List.set_set, ih]
          · rw [List.set_comm _ _ hw, ih, List.set_comm _ _ hw]
      exact e vs
    · rcases List.mem_cons.mp h with e | e
      · exact absurd e.symm hv
      · rw [wipe_set e]
theorem wipe_wipe (σ : L2.St) (vs : List Nat) : wipe (wipe σ vs) vs = wipe σ vs := by
  have key : ∀ us : List Nat, (∀ j ∈ us, ∀ x : Option V, (wipe σ vs)[j]? = some x → x = none) → wipe (wipe σ vs) us = wipe σ vs := by
    intro us
    induction us with
    | nil => intro _; rfl
    | cons u us ih =>
      intro h
      show (wipe (wipe σ vs) us).set u none = wipe σ vs
      rw [ih fun j hj => h j (List.mem_cons_of_mem _ hj)]
      refine List.ext_getElem? fun j => ?_
      by_cases hj : u = j
      · subst hj
        by_cases hl : u < (wipe σ vs).length
        · rw [List.getElem?_set_self hl]
          have e := h u List.mem_cons_self ((wipe σ vs)[u]) (List.getElem?_eq_getElem hl)
          rw [List.getElem?_eq_getElem hl, e]
        · rw [List.getElem?_eq_none (by rw [List.length_set]; omega), List.getElem?_eq_none (by omega)]
      · rw [List.getElem?_set_ne hj]
  refine key vs fun j hj x e => ?_
  cases x with
  | none => rfl
  | some v => exact absurd hj (wipe_some e).2
theorem tgt_name {K : PySem.W.Frag} {vs : List Nat} {i : Nat} (h : i ∈ vs) : Tgt K vs (gName i) (tName i) :=
  ⟨tname_mono, fun ι γ S σ H d v Q P rl vd q hq => hq _ _ (rl.set vd i) (wipe_set h) q⟩
theorem tgts_nil {K : PySem.W.Frag} {vs : List Nat} : Tgts K vs gNil tNil :=
  ⟨fun d γ S Q Q' hq q => ⟨q.1, hq _ _ q.2⟩, fun ι γ S σ H ds us Q P rl vd q hq => by
    obtain ⟨rfl, q⟩ := q
    cases vd
    exact ⟨rfl, hq _ _ rl rfl q⟩⟩
theorem tgts_cons {K : PySem.W.Frag} {vs : List Nat} {g : TG} {gd : GG} {h : TGs} {hd : GGs} (a : Tgt K vs g gd) (b : Tgts K vs h hd) : Tgts K vs (gCons g h) (tCons gd hd) := by
  refine ⟨fun ds γ S Q Q' hq q => ?_, fun ι γ S σ H ds us Q P rl vd q hq => ?_⟩
  · unfold tCons at q ⊢
    split at q
    · exact a.mono _ γ S _ _ (fun γ1 S1 q1 => b.mono _ γ1 S1 Q Q' hq q1) q
    · exact q
  · unfold tCons at q
    split at q
    · cases vd with
      | cons h1 h2 =>
      refine ⟨_, _, rfl, a.run ι γ S σ H _ _ _ _ rl h1 q fun γ1 σ1 l1 w1 q1 => b.run ι γ1 S σ1 H _ _ _ _ l1 h2 q1 fun γ2 σ2 l2 w2 q2 => hq _ _ l2 (w2.trans w1) q2⟩
    · exact q.elim
theorem tgt_tup {K : PySem.W.Frag} {vs : List Nat} {h : TGs} {hd : GGs} {n : Nat} (b : Tgts K vs h hd) : Tgt K vs (L2.gTup K n h) (tTup n hd) := by
  refine ⟨fun d γ S Q Q' hq q => ?_, fun ι γ S σ H d v Q P rl vd q hq => ?_⟩
  · unfold tTup at q ⊢
    split at q
    · exact ⟨q.1, b.mono _ γ S Q Q' hq q.2⟩
    · exact q
  · unfold tTup at q
    split at q
    · cases vd with
      | tup h1 h2 => exact ⟨_, _, rfl, h1, by rw [← h2.len]; exact q.1, b.run ι γ S σ H _ _ _ _ rl h2 q.2 hq⟩
    · exact q.elim
/-- a clause's tests -/
structure GTs (X : Cx) (ifs : List Expr) (g : GT Bool) : Prop where
  mono : Mono g
  run : PTs X ifs (loB X.K g)
section
variable {X : Cx}
def bYes : GT Bool := fun _ S Q => Q true S
theorem gt_nil : GTs X [] bYes := ⟨fun _ S _ _ hq q => hq _ S q, ⟨fun pins s σ H Q I ⟨ι, γ, S, rl, rs, q⟩ => pts_nil.run pins s σ H Q I (q ι H .refl rs)⟩⟩
theorem gt_one {c : Expr} {g : GT Bool} (h : GB X c g) : GTs X [c] g := ⟨h.mono, pts_one h.run⟩
def comp (ok : Sto → Prop) (t : GG) (tt : GT Bool) (te : GT D) (l : Nat) (γ0 : Sl) (Q : D → Sto → Prop) : List D → Sto → Prop
  | [] => fun S => ok S ∧ Q (.loc l) S
  | d :: ds => fun S => ok S ∧ t d γ0 S fun γ2 S2 => tt γ2 S2 fun k S3 =>
    if k = true then te γ2 S3 fun y S4 => match S4[l]? with
      | some (.lst acc) => acc.length < sizeLine ∧ comp ok t tt te l γ0 Q ds (S4.set l (.lst (acc ++ [y])))
      | _ => False
    else comp ok t tt te l γ0 Q ds S3
theorem comp_mono {ok : Sto → Prop} {t : GG} {tt : GT Bool} {te : GT D} {l : Nat} {γ0 : Sl} (ht : ∀ d γ S (Q Q' : Sl → Sto → Prop), (∀ γ S, Q γ S → Q' γ S) → t d γ S Q → t d γ S Q') (h1 : Mono tt) (h2 : Mono te) {Q Q' : D → Sto → Prop} (hq : ∀ d S', Q d S' → Q' d S') :
    ∀ (ds : List D) (S : Sto), comp ok t tt te l γ0 Q ds S → comp ok t tt te l γ0 Q' ds S
  | [], S, q => ⟨q.1, hq _ _ q.2⟩
  | d :: ds, S, q => ⟨q.1, ht d γ0 S _ _ (fun γ2 S2 q2 => h1 γ2 S2 _ _ (fun k S3 q3 => by
    cases k with
    | true =>
      refine h2 γ2 S3 _ _ (fun y S4 q4 => ?_) q3
      split at q4
      · exact ⟨q4.1, comp_mono ht h1 h2 hq ds _ q4.2⟩
      · exact q4
    | false => exact comp_mono ht h1 h2 hq ds _ q3) q2) q.2⟩
def gLc (w : GIt) (t : GG) (tt : GT Bool) (te : GT D) (vs : List Nat) : GT D := fun γ S Q => w γ S fun it S1 => comp it.ok t tt te S1.length (wip γ vs) Q it.xs (S1 ++ [.lst []])
theorem mono_lc {w : GIt} {t : GG} {tt : GT Bool} {te : GT D} {vs : List Nat} (hw : ∀ γ S (Q Q' : Items → Sto → Prop), (∀ d S', Q d S' → Q' d S') → w γ S Q → w γ S Q') (ht : ∀ d γ S (Q Q' : Sl → Sto → Prop), (∀ γ S, Q γ S → Q' γ S) → t d γ S Q → t d γ S Q') (h1 : Mono tt) (h2 : Mono te) : Mono (gLc w t tt te vs) :=
  fun γ S Q Q' hq q => hw γ S _ _ (fun it S1 q1 => comp_mono ht h1 h2 hq _ _ q1) q
theorem lo_lc {w : GIt} {g : TG} {t : GG} {tt : GT Bool} {te : GT D} {vs : List Nat} (hw : ∀ γ S (Q Q' : Items → Sto → Prop), (∀ d S', Q d S' → Q' d S') → w γ S Q → w γ S Q') (ht : Tgt X.K vs g t) (h1 : Mono tt) (h2 : Mono te) {σ : L2.St} {H : Hp} {Q : VK} (q : lo X.K (gLc w t tt te vs) σ H Q) :
    tLc (loI X.K w) g (loB X.K tt) (lo X.K te) vs σ H Q := by
  obtain ⟨ι, γ, S, rl, rs, q⟩ := q
  refine ⟨ι, γ, S, rl, rs, hw γ S _ _ (fun it S1 q1 ι1 H1 J g1 r1 jr Dd hD => ?_) q⟩
  have g1' : Gr X.K ι1 H1 (ι1 ++ [Dd]) (upd H1 Dd (.lst [])) := .grown hD
  have rD : SR X.K (ι1 ++ [Dd]) (upd H1 Dd (.lst [])) (S1 ++ [.lst []]) := r1.new hD ⟨[], upd_same, .nil⟩
  have iD : (ι1 ++ [Dd])[S1.length]? = some Dd := by
    rw [← r1.len, List.getElem?_append_right (Nat.le_refl _), Nat.sub_self]
    rfl
  have jr' := jr.gr g1'
  refine ⟨fun i m H2 => m = it.xs.length - i ∧ i ≤ it.xs.length ∧ ∃ ι2 S2, Gr X.K (ι1 ++ [Dd]) (upd H1 Dd (.lst [])) ι2 H2 ∧ SR X.K ι2 H2 S2 ∧ comp it.ok t tt te S1.length (wip γ vs) (Aft X.K ι H Q) (it.xs.drop i) S2,
    ⟨it.xs.length, rfl, Nat.zero_le _, _, _, .refl, rD, q1⟩, ?_⟩
  rintro i m H2 ⟨rfl, hle, ι2, S2, g2, r2, q2⟩
  by_cases hlt : i < it.xs.length
  · rw [List.drop_eq_getElem_cons hlt] at q2
    obtain ⟨ok, q2⟩ := q2
    have jj := (jr' i ι2 H2 S2 g2 r2 ok).1 _ (List.getElem?_eq_getElem hlt)
    refine .inr ⟨jj.1, fun H' => ∃ ι2 S2, Gr X.K (ι1 ++ [Dd]) (upd H1 Dd (.lst [])) ι2 H' ∧ SR X.K ι2 H' S2 ∧ comp it.ok t tt te S1.length (wip γ vs) (Aft X.K ι H Q) (it.xs.drop (i + 1)) S2, fun H' z => ⟨it.xs.length - (i + 1), by omega, rfl, hlt, z⟩, fun v H3 y => ?_⟩
    obtain ⟨g3, r3, v3⟩ := jj.2 v H3 y
    have l3 : LR X.K ι2 H3 (wip γ vs) (wipe σ vs) := (((rl.gr g1).gr g1').gr (g2.trans g3)).wip vs
    refine ht.run ι2 (wip γ vs) S2 (wipe σ vs) H3 _ v _ _ l3 v3 q2 fun γ4 σ4 l4 w4 q4 => ⟨w4.trans (wipe_wipe σ vs), ι2, γ4, S2, l4, r3, h1 γ4 S2 _ _ (fun k S5 q5 ι5 H5 g5 r5 => ?_) q4⟩
    cases k with
    | false => exact ⟨ι5, S5, (g2.trans g3).trans g5, r5, q5⟩
    | true =>
      refine ⟨ι5, γ4, S5, l4.gr g5, r5, h2 γ4 S5 _ _ (fun z S6 q6 ι6 H6 v6 g6 r6 vz => ?_) q5⟩
      split at q6
      · rename_i acc e6
        obtain ⟨b, e7, us, e8, w8⟩ := r6.get e6
        have e9 := (((g2.trans g3).trans g5).trans g6).loc _ _ iD
        rw [e9] at e7
        cases e7
        obtain ⟨g9, r9⟩ := r6.lput e9 e8 (w8.app (.cons vz .nil))
        exact ⟨us, e8, by rw [← w8.len]; exact q6.1, ι6, _, (((g2.trans g3).trans g5).trans g6).trans g9, r9, q6.2⟩
      · exact q6.elim
  · have e : it.xs.drop i = [] := List.drop_eq_nil_of_le (by omega)
    rw [e] at q2
    exact .inl ⟨(jr' i ι2 H2 S2 g2 r2 q2.1).2 (by omega), q2.2 ι2 H2 _ (g1.trans (g1'.trans g2)) r2 (.loc (g2.loc _ _ iD))⟩
theorem ge_lc {elt tg iter : Expr} {ifs : List Expr} {scope : Scope} {own : List (Str × Nat)} {pos : Pos} {w : GIt} {g : TG} {t : GG} {tt : GT Bool} {te : GT D} (hc : X.calm = true) (hN : X.N.Nodup) (hi : GIter X tg iter w) (ok : BlkOk X.N X.env.scope scope own) (ht : Tgt X.K (own.map (·.2)) g t)
    (hg : ∀ (s : Shared) (H : Hp) (C : Addr) (cl : List (Str × Addr)) (fp : List Addr), PG (X.blk s H scope (compEnvC scope cl C X.env) fp) tg g) (h1 : ∀ (s : Shared) (H : Hp) (C : Addr) (cl : List (Str × Addr)) (fp : List Addr), GTs (X.blk s H scope (compEnvC scope cl C X.env) fp) ifs tt)
    (h2 : ∀ (s : Shared) (H : Hp) (C : Addr) (cl : List (Str × Addr)) (fp : List Addr), GE (X.blk s H scope (compEnvC scope cl C X.env) fp) elt te) (hs : ∀ x, foldedSetIterable iter X.env x = pure x := by intro _; rfl) : GE X (.ListComp elt [⟨tg, iter, ifs, 0⟩] scope pos) (gLc w t tt te (own.map (·.2))) :=
  have m1 := (h1 X.s_0 X.H_0 0 [] []).mono
  have m2 := (h2 X.s_0 X.H_0 0 [] []).mono
  ⟨mono_lc hi.mono ht.mono m1 m2, pe_le (pe_lc hc hN hi.run ok hg (fun s H C cl fp => (h1 s H C cl fp).run) (fun s H C cl fp => (h2 s H C cl fp).run) hs) fun σ H Q q => lo_lc hi.mono ht m1 m2 q⟩
theorem gs_setLc {i : Nat} {y : Str} {py : Pos} {elt tg iter : Expr} {ifs : List Expr} {scope : Scope} {own : List (Str × Nat)} {pos spos : Pos} {w : GIt} {g : TG} {t : GG} {tt : GT Bool} {te : GT D} (hc : X.calm = true) (hN : X.N.Nodup) (hy : X.N[i]? = some y) (hyl : X.env.scope.names.lookup y = some .local)
    (hsw : swapsWith (.ListComp elt [⟨tg, iter, ifs, 0⟩] scope pos) (some (.Name y py)) spos.line X.env = pure true) (hi : GIter X tg iter w) (ok : BlkOk X.N X.env.scope scope own) (ht : Tgt X.K (own.map (·.2)) g t)
    (hg : ∀ (s : Shared) (H : Hp) (C : Addr) (cl : List (Str × Addr)) (fp : List Addr), PG (X.blk s H scope (compEnvC scope cl C X.env) fp) tg g) (h1 : ∀ (s : Shared) (H : Hp) (C : Addr) (cl : List (Str × Addr)) (fp : List Addr), GTs (X.blk s H scope (compEnvC scope cl C X.env) fp) ifs tt)
    (h2 : ∀ (s : Shared) (H : Hp) (C : Addr) (cl : List (Str × Addr)) (fp : List Addr), GE (X.blk s H scope (compEnvC scope cl C X.env) fp) elt te) (hs : ∀ x, foldedSetIterable iter X.env x = pure x := by intro _; rfl) :
    GS X (.Assign [.Name y py] (.ListComp elt [⟨tg, iter, ifs, 0⟩] scope pos) spos) (sAsg (gLc w t tt te (own.map (·.2))) (tName i)) :=
  have m1 := (h1 X.s_0 X.H_0 0 [] []).mono
  have m2 := (h2 X.s_0 X.H_0 0 [] []).mono
  have ml := mono_lc (vs := own.map fun z : Str × Nat => z.2) hi.mono ht.mono m1 m2
  ⟨fun γ S A B le q => ml γ S (fun x S1 => tName i x γ S1 A.nx) (fun x S1 => tName i x γ S1 B.nx) (fun x S1 q1 => le.nx _ _ q1) q,
    ps_le (ps_setLc hc hN hy hyl hsw hi.run ok hg (fun s H C cl fp => (h1 s H C cl fp).run) (fun s H C cl fp => (h2 s H C cl fp).run) hs) fun E σ H q => by
      have z := set_le ml q
      exact lo_lc hi.mono ht m1 m2 z⟩
end
end G
namespace G
open PySem PySem.Spec L2
/-- what a def promises: arguments, store ahead, what is wanted of the answer and the store behind -/
abbrev Rel := List D → Sto → (D → Sto → Prop) → Prop
def MonoR (R : Rel) : Prop := ∀ ds S (Q Q' : D → Sto → Prop), (∀ d S', Q d S' → Q' d S') → R ds S Q → R ds S Q'
structure GFn (P : Program) (w : World) (K : PySem.W.Frag) (mg : Str → Option Value) (base : Heap) (CX : CXT) (k : Nat) (f : Addr) (fd : FuncData) (ps : List Str) (R : Rel) : Prop where
  mono : MonoR R
  len : ∀ ds S Q, R ds S Q → ds.length = ps.length
  run : ∀ (A : Around) (outer : List Env) (s : Shared) (H : Hp) (args : Args) (us : List Value) (vs : List V) (ι : List Addr) (ds : List D) (S : Sto) (Q : VK) (E : XK),
    A.guards = some [] → Room k A → Env0 P w K mg base A outer s H → BindsTo s fd args (ps.zip us) → Vals vs us → VRs K ι H ds vs → SR K ι H S → R ds S (Aft K ι H Q) →
    codeAny (model P w) A (.call (.ref f) args) (CR CX outer P w H s Q E) s
theorem GFn.le {P : Program} {w : World} {K : PySem.W.Frag} {mg : Str → Option Value} {base : Heap} {CX : CXT} {j k : Nat} {f : Addr} {fd : FuncData} {ps : List Str} {R R' : Rel} (F : GFn P w K mg base CX j f fd ps R) (hk : j ≤ k)
    (m : MonoR R') (h : ∀ ds S Q, R' ds S Q → R ds S Q) : GFn P w K mg base CX k f fd ps R' :=
  ⟨m, fun ds S Q r => F.len ds S Q (h _ _ _ r), fun A outer s H args us vs ι ds S Q E hg hr e0 hb hv hvr hs r => F.run A outer s H args us vs ι ds S Q E hg (hr.mono hk) e0 hb hv hvr hs (h _ _ _ r)⟩
/-- the store at a def's end: what is promised, and behind it what nobody names any more -/
def Lv (S S1 S' : Sto) (d : D) : Prop := S1 = S' ∨ ((∃ g, S1 = S' ++ g) ∧ S.length ≤ S'.length ∧ ClS S' ∧ Cl S'.length d = true)
def Kp (S : Sto) (Q : D → Sto → Prop) (d : D) (S1 : Sto) : Prop := ∃ S', Lv S S1 S' d ∧ Q d S'
def fnE (S : Sto) (Q : D → Sto → Prop) : GEnds := { nx := fun _ S1 => Kp S Q .non S1, rt := Kp S Q }
theorem Kp.of {S S1 : Sto} {Q : D → Sto → Prop} {d : D} (h : Q d S1) : Kp S Q d S1 := ⟨S1, .inl rfl, h⟩
def startD (N : List Str) (ds : List D) : Sl := ds.map some ++ List.replicate (N.length - ds.length) none
theorem aft_lv {K : PySem.W.Frag} {ι ι' : List Addr} {H H' : Hp} {S S1 S' : Sto} {d : D} {v : V} {Q : VK} (rs : SR K ι H S) (q : Aft K ι H Q d S') (g : Gr K ι H ι' H') (r : SR K ι' H' S1) (hv : VR K ι' H' d v) (lv : Lv S S1 S' d) : Q v H' := by
  rcases lv with rfl | ⟨⟨gb, rfl⟩, hl, hc, hd⟩
  · exact q ι' H' v g r hv
  · exact q _ H' v (g.cut (by rw [rs.len]; exact hl)) (r.cut hc) (hv.cut hd)
theorem lr_start {K : PySem.W.Frag} {ι : List Addr} {H : Hp} {ds : List D} {vs : List V} (N : List Str) (r : VRs K ι H ds vs) : LR K ι H (startD N ds) (L2.start N vs) := by
  refine ⟨?_, fun i d e => ?_⟩
  · unfold startD L2.start
    rw [List.length_append, List.length_append, List.length_map, List.length_map, List.length_replicate, List.length_replicate, r.len]
  · unfold startD at e
    by_cases hi : i < ds.length
    · rw [List.getElem?_append_left (by rw [List.length_map]; exact hi), List.getElem?_map] at e
      cases h : ds[i]? with
      | none => rw [h] at e; cases e
      | some d' =>
        rw [h] at e
        cases e
        obtain ⟨v, h1, h2⟩ := r.get h
        refine ⟨v, ?_, h2⟩
        unfold L2.start
        rw [List.getElem?_append_left (by rw [List.length_map, ← r.len]; exact hi), List.getElem?_map, h1]
        rfl
    · rw [List.getElem?_append_right (by rw [List.length_map]; omega), List.getElem?_replicate] at e
      split at e <;> cases e
theorem deeper_guards (A : Around) (env : Env) : (A.deeper env).guards = A.guards := rfl
section
variable {P : Program} {w : World} {K : PySem.W.Frag} {mg : Str → Option Value} {base : Heap} {CX : CXT} {k : Nat} {f : Addr} {fd : FuncData} {N ps : List Str} {R : Rel} {x qual : Str} {st : Stmt}
/-- THE RULE of a def, by a reading of its body -/
theorem gfn_ofX (F : Fun K x qual st f fd) (Sc : FnScope N ps (defScope st)) (hm : MonoR R) (hl : ∀ ds S Q, R ds S Q → ds.length = ps.length)
    (hb : ∀ (cdv : Value) (A : Around) (outer : List Env) (s : Shared) (H : Hp) (E : XK) (ds : List D) (S : Sto) (Q : D → Sto → Prop), A.guards = some [] → Room k (A.deeper (PyProof.Rows.envOfC qual (defScope st) s.heap.objs.size f cdv)) → R ds S Q → ClS S → Cls S.length ds = true →
      ∃ g : GTS, PSs (cxOf CX P w K mg base N qual (defScope st) f cdv A outer s H E) (defBody st) (loS K g) ∧ MonoS g ∧ g (fnE S Q) (startD N ds) S) : GFn P w K mg base CX (k + 1) f fd ps R := by
  obtain ⟨oc, od, kV, doc, pm, an, cdv, ct, osl, rfl, lk, hcd⟩ := F.ex
  refine ⟨hm, hl, fun A outer s H args us vs ι ds S Q E hg hr e0 hbd hv hvr hs r => ?_⟩
  have hlen : vs.length = ps.length := by rw [← hvr.len]; exact hl _ _ _ r
  have kin : K.In s.heap := e0.mod.kin.keeps fun b o e => (e0.bs b o e).1
  have lim : s.heap.NoLimit := e0.mod.nolimit.keeps fun b o e => (e0.bs b o e).1
  have kinds : ∀ y ∈ ps.zip us, (defScope st).names.lookup y.1 = some .local ∨ ((defScope st).names.lookup y.1 = some .cell ∧ ((cellsFrom (s.heap.objs.size + 1) (defScope st).names []).lookup y.1).isSome = true) := fun y hy => by
    rcases Sc.par y.1 (List.of_mem_zip hy).1 with z | z
    · exact .inl z
    · exact .inr ⟨z, PySem.W.cellsFrom_some _ _ _ (.inl z)⟩
  refine codeAny_call_function hr.depth (kin _ _ lk) rfl Sc.co Sc.gen rfl (PySem.W.codeRec_of kin hcd) (hbd _ _ _ _ (wpAny_newFunctionEnv_cells Sc.kind kinds fun env he s1 xc => ?_))
  subst he
  refine ⟨lim.keeps xc.toInCall.keep, codeAny_func ?_⟩
  obtain ⟨g, hg1, hmn, hg2⟩ := hb cdv A outer s H E ds S (Aft K ι H Q) hg (hr.deeper _) r hs.cl (hvr.cl (Nat.le_of_eq hs.len))
  have I0 : Inv (cxOf CX P w K mg base N qual (defScope st) f cdv A outer s H E) [] (L2.start N vs) H s1 := inv_start Sc hr.hd e0 hlen hv xc
  have h0 : loS K g { nx := fun _ H' => Q .non H', rt := Q } (L2.start N vs) H := by
    refine ⟨ι, startD N ds, S, lr_start N hvr, hs, hmn _ _ (fnE S (Aft K ι H Q)) _ ⟨fun γ1 S1 q1 ι1 H1 σ1 g1 r1 l1 => ?_, fun d1 S1 q1 ι1 H1 v1 g1 r1 l1 => ?_, fun _ _ z => z.elim, fun _ _ z => z.elim⟩ hg2⟩
    · obtain ⟨S', lv, q⟩ := q1
      exact aft_lv hs q g1 r1 .non lv
    · obtain ⟨S', lv, q⟩ := q1
      exact aft_lv hs q g1 r1 l1 lv
  refine wpAny_mono (hg1.run [] s1 (L2.start N vs) H _ I0 h0) (fun fl s' z => ?_) fun e s' z => z
  cases fl with
  | ret u =>
    obtain ⟨v, σ', H', J, rv, z⟩ := z
    exact ⟨v, H', J.os, J.bare, J.base, J.hok, rv, z⟩
  | next =>
    obtain ⟨σ', H', J, z⟩ := z
    exact ⟨.non, H', J.os, J.bare, J.base, J.hok, rfl, z⟩
  | brk => obtain ⟨_, _, _, z⟩ := z; exact z.elim
  | cont => obtain ⟨_, _, _, z⟩ := z; exact z.elim
/-- no exception leaves it -/
theorem gfn_of {g : GTS} (F : Fun K x qual st f fd) (Sc : FnScope N ps (defScope st))
    (hb : ∀ (cdv : Value) (A : Around) (outer : List Env) (s : Shared) (H : Hp) (E : XK), A.guards = some [] → Room k (A.deeper (PyProof.Rows.envOfC qual (defScope st) s.heap.objs.size f cdv)) → GSs (cxOf CX0 P w K mg base N qual (defScope st) f cdv A outer s H E).nox (defBody st) g)
    (hm : MonoR R) (hl : ∀ ds S Q, R ds S Q → ds.length = ps.length) (hR : ∀ ds S Q, R ds S Q → ClS S → Cls S.length ds = true → g (fnE S Q) (startD N ds) S) : GFn P w K mg base CX0 (k + 1) f fd ps R :=
  gfn_ofX F Sc hm hl fun cdv A outer s H E ds S Q hg hr r c1 c2 =>
    have z := hb cdv A outer s H E hg hr
    ⟨g, z.run.nox, z.mono, hR ds S Q r c1 c2⟩
end
section
variable {X : Cx} {CX : CXT} {k : Nat} {f : Addr} {fd : FuncData} {ps : List Str} {R : Rel} {dvs : List V} {dds : List D} {ds : List Value} {E : XK} {x : Str} {p pos : Pos} {e : Expr} {es : List Expr}
theorem run_gfn {pins : List (Addr × Obj)} {σ : L2.St} {H : Hp} {s : Shared} {Q : VK} {us : List Value} {vs : List V} {ι : List Addr} {args : List D} {S : Sto} (F : GFn X.prog X.w X.K X.mg X.base CX k f fd ps R) (hg : X.A.guards = some []) (hr : Room k X.A) (hb : Binds X.K fd ps ds) (hd : Vals dvs ds) (hx : Passes CX X E)
    (I : Inv X pins σ H s) (r : Vals vs us) (hs : SR X.K ι H S) (ha : VRs X.K ι H args vs) (hdd : VRs X.K ι H dds dvs) (h : R (args ++ dds) S (Aft X.K ι H Q)) : wpAny (model X.prog X.w) X.A (call (.ref f) us) (EP X pins σ Q) X.xe s := by
  have r2 : Vals (vs ++ dvs) (us ++ ds) := r.append hd
  have l2 : (us ++ ds).length = ps.length := by
    rw [← r2.length, ← (ha.app hdd).len]
    exact F.len _ _ _ h
  refine wpAny_call (codeAny_mono (F.run X.A X.stack s H ⟨us, []⟩ (us ++ ds) (vs ++ dvs) ι (args ++ dds) S Q E hg hr I.env0 (hb s us I.kIn l2) r2 (ha.app hdd) hs h) fun o s' z => ?_)
  cases o with
  | error er => exact hx pins σ H s er s' I z
  | ok fl =>
    cases fl with
    | ret u => exact I.after z
    | next => exact z.elim
    | brk => exact z.elim
    | cont => exact z.elim
def gFn (R : Rel) (dds : List D) (ga : GT (List D)) : GT D := fun γ S Q => ga γ S fun xs S1 => R (xs ++ dds) S1 Q
theorem mono_fn {ga : GT (List D)} (hR : MonoR R) (ha : Mono ga) : Mono (gFn R dds ga) := fun γ S Q Q' hq q => ha γ S _ _ (fun xs S1 r => hR _ _ Q Q' hq r) q
theorem ge_fn {ga : GT (List D)} (F : GFn X.prog X.w X.K X.mg X.base CX k f fd ps R) (hgd : X.A.guards = some []) (hr : Room k X.A) (hg : Gl X x) (hm : X.mg x = some (.ref f)) (hk : PySem.W.keepIn X.K (.ref f) = true) (hb : Binds X.K fd ps ds) (hd : Vals dvs ds) (hdd : ∀ ι H, VRs X.K ι H dds dvs) (hx : Passes CX X E)
    (ha : GA X (e :: es) ga) (hdb : (x == ("__debug__" : Str)) = false := by decide) (he : starEach (e :: es) X.env = (false, eval e X.env) :: starEach es X.env := by rfl) (hpl : (backTo pos (starEach es X.env)).any (·.1) = false := by rfl) :
    GE X (.Call (.Name x p) (e :: es) [] pos) (gFn R dds ga) := by
  refine ⟨mono_fn F.mono ha.mono, ⟨fun pins s σ H Q I h => ?_⟩⟩
  obtain ⟨ι, γ, S, rl, rs, q⟩ := h
  refine wpAny_Call_Name_kw (ld_glob I hg hm ?_ hdb)
  refine PySem.W.callWith_K (h₀ := X.base) I.ok.mod.kin hk (thn (ha.run.run pos pins s σ H (fun vs H1 => ∃ ι1 xs S1, Gr X.K ι H ι1 H1 ∧ SR X.K ι1 H1 S1 ∧ VRs X.K ι1 H1 xs vs ∧ R (xs ++ dds) S1 (Aft X.K ι H Q)) I
    ⟨ι, γ, S, rl, rs, ha.mono γ S _ _ (fun xs S1 r ι1 H1 vs g1 r1 vx => ⟨ι1, xs, S1, g1, r1, vx, r⟩) q⟩) fun us s1 ⟨vs, H1, I1, rv, ι1, xs, S1, g1, r1, vx, r⟩ => ⟨I1.kIn, ?_⟩) he hpl
  exact run_gfn F hgd hr hb hd hx I1 rv r1 vx (hdd ι1 H1) (F.mono _ _ _ _ (fun d S' q => q.gr g1) r)
theorem ge_fn0 (F : GFn X.prog X.w X.K X.mg X.base CX k f fd ps R) (hgd : X.A.guards = some []) (hr : Room k X.A) (hg : Gl X x) (hm : X.mg x = some (.ref f)) (hk : PySem.W.keepIn X.K (.ref f) = true) (hb : Binds X.K fd ps ds) (hd : Vals dvs ds) (hdd : ∀ ι H, VRs X.K ι H dds dvs) (hx : Passes CX X E)
    (hdb : (x == ("__debug__" : Str)) = false := by decide) : GE X (.Call (.Name x p) [] [] pos) (gFn R dds aNil) := by
  refine ⟨mono_fn F.mono (ga_nil (X := X)).mono, ⟨fun pins s σ H Q I h => ?_⟩⟩
  obtain ⟨ι, γ, S, rl, rs, q⟩ := h
  refine wpAny_Call_Name_kw (ld_glob I hg hm ?_ hdb)
  exact PySem.W.callWith_K0 I.kIn hk (run_gfn (us := []) F hgd hr hb hd hx I .nil rs .nil (hdd ι H) q)
end
end G
namespace G
open PySem PySem.Spec L2
/-- the script's datum -/
def scr (ns : List Int) : D := .frl (ns.map D.int)
theorem scr_vals {K : PySem.W.Frag} {ι : List Addr} {H : Hp} : ∀ ns : List Int, VRs K ι H (ns.map D.int) (ns.map V.int)
  | [] => .nil
  | n :: r => .cons (.int n) (scr_vals r)
theorem law_goes {P : Program} {w : World} {K : PySem.W.Frag} {mg mb : Str → Option Value} {k : Nat} {fa a : Addr} {fd : FuncData} {x : Str} {R : Rel} {s₁ : Shared} {vs : List Value} {ns : List Int}
    (KX : K.In s₁.heap) (hns : s₁.heap.Ns mainGlobals mg) (hb : s₁.heap.Ns builtinsNs mb) (hbb : ∀ x : Str, x ≠ "__name__" → mb x = bootBuiltins x) (hlim : s₁.heap.NoLimit) (hg : s₁.gens = #[])
    (ha : s₁.heap.get? a = some { cls := .type "list", data := .seq vs.toArray }) (hi : PyProof.Rows.IntsAre vs ns) (hl : ns.length ≤ sizeLine) (hr : Room k callerA)
    (F : ∀ base : Heap, K.In base → base.Ns mainGlobals mg → GFn P w K mg base CX0 k fa fd [x] R) (hbind : ∀ (s : Shared) (u : Value), BindsTo s fd ⟨[u], []⟩ [(x, u)]) (hR : R [scr ns] [] fun d _ => d = .bl true) :
    codeAny (model P w) callerA (.call (.ref fa) ⟨[.ref a], []⟩) (fun r s' => r = .ok (.ret (.bool true)) ∧ OldK s₁.heap s'.heap ∧ s'.os = s₁.os ∧ PyProof.Rows.AllBare s'.gens) s₁ := by
  have rv := vals_ints hi
  -- whatever of the script is tracked
  have core : ∀ H : Hp, Only H → FrL K H a (ns.map V.int) → HOk P w H s₁.heap → (∀ b, H b ≠ none → b = a) → (H a ≠ none → K.lookup a = none) →
      codeAny (model P w) callerA (.call (.ref fa) ⟨[.ref a], []⟩) (fun r s' => r = .ok (.ret (.bool true)) ∧ OldK s₁.heap s'.heap ∧ s'.os = s₁.os ∧ PyProof.Rows.AllBare s'.gens) s₁ := by
    intro H hO hS hok hA hK
    have isA : ∀ {b : Addr} {u : HO}, H b = some u → b = a := fun {b u} q => hA b (by rw [q]; exact fun z => nomatch z)
    have noA : ∀ {b : Addr} {o : Obj} {es : Array DictEntry} {ep : Nat}, s₁.heap.get? b = some o → o.data = .dict es ep → H b = none := fun {b o es ep} e dd => by
      cases q : H b with
      | none => rfl
      | some u =>
        have e' := isA q
        subst e'
        rw [ha] at e
        cases e
        have d' : Data.seq vs.toArray _ = Data.dict es ep := dd
        cases d'
    have nsK : ∀ {b : Addr} {m : Str → Option Value}, s₁.heap.Ns b m → (hidT s₁.heap H).Ns b m := fun {b m} z => by
      obtain ⟨o, es, ep, e, dd, r⟩ := z
      exact ⟨o, es, ep, hidT_get e (noA e dd), dd, r⟩
    have hKb : K.In (hidT s₁.heap H) := fun b o e => hidT_get (KX b o e) (by
      cases q : H b with
      | none => rfl
      | some u =>
        have e' := isA q
        subst e'
        rw [hK (by rw [q]; exact fun z => nomatch z)] at e
        cases e)
    have hM : Mod K mg (hidT s₁.heap H) := ⟨hKb, nsK hns, ⟨mb, nsK hb, hbb⟩, by
      obtain ⟨mc, h1, h2⟩ := hlim
      exact ⟨mc, nsK h1, h2⟩⟩
    have e0 : Env0 P w K mg (hidT s₁.heap H) callerA [] s₁ H := ⟨rfl, hM, fun b o e => of_hidT e, Nat.le_of_eq (hidT_size _ _), trivial, (fun b z => absurd z List.not_mem_nil), hok, .of_eq hg⟩
    have hsr : SR K [] H [] := ⟨rfl, List.nodup_nil, fun l o e => by cases e⟩
    have hargs : VRs K [] H [scr ns] [.ref a] := .cons (.frl hS (scr_vals ns)) .nil
    refine codeAny_mono ((F _ hKb (nsK hns)).run callerA [] s₁ H ⟨[.ref a], []⟩ [.ref a] [.ref a] [] [scr ns] [] (fun v _ => v = .bl true) E0 rfl hr e0 (hbind s₁ (.ref a)) (.cons rfl .nil) hargs hsr ((F _ hKb (nsK hns)).mono _ _ _ _ (fun d S' e ι' H' v g r z => by subst e; cases z; rfl) hR)) fun r s' h => ?_
    cases r with
    | error e => exact h.elim
    | ok fl =>
      cases fl with
      | next => exact h.elim
      | brk => exact h.elim
      | cont => exact h.elim
      | ret u =>
        obtain ⟨v, H', os, bare, un, hok', r', rfl⟩ := h
        obtain rfl : u = Value.bool true := r'
        refine ⟨rfl, OldK.of_keep fun b o e => ?_, os, bare⟩
        cases q : H b with
        | none => exact un.keep b o e q (by intro z; cases z) (by intro z; cases z)
        | some u =>
          rcases hO b with z | ⟨ob, xs, z⟩
          · rw [q] at z
            cases z
          · obtain ⟨e1, _⟩ := hok b _ z
            obtain ⟨e2, _⟩ := hok' b _ (un.frzs b ob _ z)
            rw [e] at e1
            cases e1
            exact e2
  cases hk : K.lookup a with
  | some o =>
    have e := KX a o hk
    rw [ha] at e
    cases e
    exact core (fun _ => none) (fun _ => .inl rfl) (.inr ⟨_, vs.toArray, _, hk, ⟨rfl, rfl⟩, rfl, by rw [List.size_toArray, hi.length]; exact hl, by simpa using rv⟩) (fun b u z => by cases z) (fun b z => absurd rfl z) fun z => absurd rfl z
  | none =>
    have at_a : ∀ {b : Addr} {u : HO}, (if b = a then some (HO.frz { cls := .type "list", data := .seq vs.toArray } (.lst (ns.map V.int))) else none) = some u → b = a ∧ u = HO.frz { cls := .type "list", data := .seq vs.toArray } (.lst (ns.map V.int)) := fun {b u} z => by
      split at z
      · exact ⟨‹_›, (Option.some.inj z).symm⟩
      · cases z
    refine core (fun b => if b = a then some (.frz { cls := .type "list", data := .seq vs.toArray } (.lst (ns.map V.int))) else none) (fun b => ?_) (.inl ⟨_, if_pos rfl⟩) (fun b u z => ?_) (fun b z => ?_) fun _ => hk
    · by_cases h : b = a
      · exact .inr ⟨_, _, if_pos h⟩
      · exact .inl (if_neg h)
    · obtain ⟨rfl, rfl⟩ := at_a z
      exact ⟨ha, by rw [List.length_map]; exact hl, vs, _, rv, ha⟩
    · by_cases h : b = a
      · exact h
      · exact absurd (if_neg h) z
open PySem.W PySem.Calls in
/-- the goal that k_head leaves, from what is known of the law's def -/
theorem walk_g {l : PySem.W.OpenLaw} {n k : Nat} {q : Program} {loose : List Str} {XP : (Str → Option Value) → Heap → Prop} {YP : World → Heap → Prop} {d : DefRec} {K : Params → PySem.W.Frag} {R : Rel} {x : Str}
    (hn : l.most = some n) (hn2 : n ≤ sizeLine) (hdf : d.params.defaults = []) (hr : Room k callerA) (hY : ∀ (w : World) (h : Heap), YP w h → (K w.params).In h)
    (F : ∀ (w : World) (mg : Str → Option Value) (fa : Addr) (h : Heap), (K w.params).In h → h.Ns mainGlobals mg → mg d.name = some (.ref fa) →
      ∃ fd : FuncData, (∀ (s : Shared) (u : Value), BindsTo s fd ⟨[u], []⟩ [(x, u)]) ∧ ∀ base : Heap, (K w.params).In base → base.Ns mainGlobals mg → GFn l.prog w (K w.params) mg base CX0 k fa fd [x] R)
    (hR : ∀ ns : List Int, ns.length ≤ n → (∀ z ∈ ns, Builtin.Int.intBits z ≤ 1048576) → R [scr ns] [] fun d _ => d = .bl true) :
    PySem.W.WalkO q loose XP YP l.row.toRowW d [] (fun f vs => PySem.call f vs) :=
  Att.attach_callB hn hdf fun w s₀ s₁ mg mb fa o pm cd doc a vs ns G Y ho hd hcd hmg hobj hints hlen hbits hg =>
    have KX := hY w _ Y
    let ⟨fd, hb, hF⟩ := F w mg fa _ KX G.T.g hmg
    law_goes KX G.T.g G.T.b G.T.builtins G.T.nolimit hg hobj hints (Nat.le_trans hlen hn2) hr hF hb (hR ns hlen hbits)
end G
namespace G
open PySem PySem.Spec L2
/-- a def of the top as it stands -/
structure DefOk (K : PySem.W.Frag) (mg : Str → Option Value) (x : Str) (st : Stmt) (ps : List Str) (f : Addr) (fd : FuncData) : Prop where
  fn : Fun K x x st f fd
  gl : mg x = some (.ref f)
  bd : Binds K fd ps []
section
variable {X : Cx} {pos : Pos}
theorem gs_set {i : Nat} {x : Str} {e : Expr} {g : GT D} {pos' : Pos} (hN : X.N.Nodup) (hi : X.N[i]? = some x) (hx : Loc X.env.scope x) (he : GE X e g) (hs : swapsWith e (some (.Name x pos')) pos.line X.env = pure false := by rfl)
    (hf : X.fn x = true ∨ X.env.scope.names.lookup x = some .local := by first | exact .inl rfl | exact .inr rfl | assumption) : GS X (.Assign [.Name x pos'] e pos) (sAsg g (tName i)) := gs_set0 he (ps_set hN hi hx he.run hs hf)
theorem gs_aug {i : Nat} {x : Str} {e : Expr} {g : GT D} {f : F2} {op : Operator} {pos' : Pos} (hN : X.N.Nodup) (hi : X.N[i]? = some x) (hx : Loc X.env.scope x) (he : GE X e g) (hf : GIp X op f)
    (hf2 : X.fn x = true ∨ X.env.scope.names.lookup x = some .local := by first | exact .inl rfl | exact .inr rfl | assumption) : GS X (.AugAssign (.Name x pos') op e pos) (sAug i g f) := gs_aug0 he hf (ps_aug hN hi hx he.run hf.run hf2)
/-- reversed(a list or a tuple) -/
def wRev (g : GT D) : GIt := fun γ S Q => g γ S fun x S1 => match x with
  | .tup ds => Q ⟨fun _ => True, ds.reverse⟩ S1
  | .loc l => match S1[l]? with
    | some (.lst ds) => Q ⟨fun S => S[l]? = some (.lst ds), ds.reverse⟩ S1
    | _ => False
  | _ => False
theorem rev_get {α : Type} {xs : List α} {i : Nat} {x : α} (h : xs.reverse[i]? = some x) : i < xs.length ∧ xs[xs.length - 1 - i]? = some x := by
  have hi : i < xs.length := by
    have := (List.getElem?_eq_some_iff.mp h).1
    simpa using this
  exact ⟨hi, by rw [← List.getElem?_reverse hi]; exact h⟩
theorem gi_rev {e : Expr} {g : GT D} {p : Pos} {tg : Expr} (hg : Gl X "reversed") (hm : X.mg "reversed" = none) (he : GE X e g) (hs : starEach [e] X.env = (false, eval e X.env) :: starEach [] X.env := by rfl) : GIter X tg (.Call (.Name "reversed" p) [e] [] pos) (wRev g) := by
  refine ⟨fun γ S Q Q' hq q => he.mono γ S _ _ (fun x S1 q1 => ?_) q, pi_le (RT.pi_revA hg hm he.run hs) fun σ H R q => ?_⟩
  · repeat' (first | exact hq _ _ q1 | exact q1.elim | split at q1)
  · obtain ⟨ι, γ, S, rl, rs, q⟩ := q
    refine ⟨ι, γ, S, rl, rs, he.mono γ S _ _ (fun x S1 q1 ι1 H1 v g1 r1 vx => ?_) q⟩
    split at q1
    · cases vx with
      | tup h1 w =>
      refine ⟨_, _, rfl, .inr ⟨h1, q1 ι1 H1 _ g1 r1 (jr_of fun i ι2 H2 S2 g2 r2 _ => ?_)⟩⟩
      have h2 := g2.tup _ _ h1
      refine ⟨fun d e => ?_, fun e => by
        have e' : _ ≤ i := e
        rw [List.length_reverse, w.len] at e'
        exact e'⟩
      obtain ⟨hi, e1⟩ := rev_get e
      obtain ⟨v, e2, wv⟩ := (w.gr g2).get e1
      rw [w.len] at e2 hi
      refine ⟨⟨hi, _, v, h2, e2⟩, fun u H3 y => ⟨y.1, ?_⟩⟩
      have e3 := y.2 _ h2
      rw [e2] at e3
      cases e3
      exact wv
    · split at q1
      · rename_i e1
        obtain ⟨a, vs, rfl, i1, h1, w⟩ := vx.list r1 e1
        refine ⟨_, _, rfl, .inl ⟨SqL.of h1, q1 ι1 H1 _ g1 r1 (jr_of fun i ι2 H2 S2 g2 r2 ok => ?_)⟩⟩
        obtain ⟨b, e0, us, h3, r⟩ := r2.get ok
        have e4 := g2.loc _ _ i1
        rw [e4] at e0
        cases e0
        have h2 : SqL X.K H2 a us := SqL.of h3
        have hl : us.length = vs.length := by rw [← r.len, w.len]
        refine ⟨fun d e => ?_, fun e => by
          have e' : _ ≤ i := e
          rw [List.length_reverse, w.len] at e'
          exact e'⟩
        obtain ⟨hi, e1⟩ := rev_get e
        obtain ⟨v, e2, wv⟩ := r.get e1
        rw [r.len, hl] at e2
        rw [r.len, hl] at hi
        refine ⟨⟨hi, us, v, h2, e2⟩, fun u H3 y => ⟨y.1, ?_⟩⟩
        have e3 := y.2 us h2
        rw [e2] at e3
        cases e3
        exact wv
      · exact q1.elim
    · exact q1.elim
/-- min, max of a list of ints -/
def bMinL : FL
  | [.int i, .int j], S, Q => Q (.int (if j < i then j else i)) S
  | [.loc l], S, Q => match S[l]? with
    | some (.lst ds) => match ints? ds with
      | some ns => 0 < ns.length ∧ ∀ m, m ∈ ns → (∀ y, y ∈ ns → m ≤ y) → Q (.int m) S
      | none => False
    | _ => False
  | _, _, _ => False
theorem gc_minL (hc : X.calm = true) : GC X (.builtin "min") bMinL := by
  refine ⟨fun xs S Q Q' hq q => ?_, callr_data fun ι S H xs vs Q rs vx q => ?_⟩
  · unfold bMinL at q ⊢
    repeat' (first | exact hq _ _ q | exact ⟨q.1, fun m h1 h2 => hq _ _ (q.2 m h1 h2)⟩ | exact q.elim | split at q)
  · unfold bMinL at q
    split at q
    · obtain ⟨v, u, rfl, h, h2⟩ := vx.two
      cases h
      cases h2
      exact ⟨_, call_min2 hc, _, _, rfl, q.val rs (.int _)⟩
    · split at q
      · rename_i e1
        split at q
        · rename_i e2
          obtain ⟨v, rfl, h⟩ := vx.one
          obtain ⟨a, vs, rfl, i1, h1, r1⟩ := h.list rs e1
          rw [ints_rel r1 e2] at h1
          exact ⟨_, cr_min hc, _, _, rfl, SqL.of h1, q.1, fun m h3 h4 => (q.2 m h3 h4).val rs (.int _)⟩
        · exact q.elim
      · exact q.elim
    · exact q.elim
end
end G
namespace G
open PySem PySem.Spec L2
/-! ### one step of a reading -/
section
variable {γ : Sl} {S : Sto} {Q : D → Sto → Prop} {QB : Bool → Sto → Prop} {QL : List D → Sto → Prop} {E : GEnds} {g h ga gb : GT D} {t u : GT Bool} {al : GT (List D)} {s1 s2 : GTS} {d : D} {i : Nat} {f : F2} {f1 : F1} {fl : FL} {fm : FM}
theorem i_seq (q : s1 { E with nx := s2 E } γ S) : sSeq s1 s2 E γ S := q
theorem i_next (q : E.nx γ S) : sNext E γ S := q
theorem i_expr (q : g γ S fun _ S1 => E.nx γ S1) : sExpr g E γ S := q
theorem i_ret (q : g γ S E.rt) : sRet g E γ S := q
theorem i_retN (q : E.rt .non S) : sRetN E γ S := q
theorem i_brk (q : E.bk γ S) : sBrk E γ S := q
theorem i_cnt (q : E.ct γ S) : sCnt E γ S := q
theorem i_if (q : t γ S fun k S1 => if k = true then s1 E γ S1 else s2 E γ S1) : sIf t s1 s2 E γ S := q
theorem i_asg {tg : GG} (q : g γ S fun x S1 => tg x γ S1 E.nx) : sAsg g tg E γ S := q
theorem i_aug {x : D} (e : γ[i]? = some (some x)) (q : g γ S fun y S1 => f x y S1 fun z S2 => E.nx (γ.set i (some z)) S2) : sAug i g f E γ S := by
  unfold sAug
  rw [e]
  exact q
theorem i_augS (q : ga γ S fun o S1 => gb γ S1 fun i S2 => dGet o i S2 fun x S3 => g γ S3 fun y S4 => f x y S4 fun z S5 => dSet o i z S5 fun S6 => E.nx γ S6) : sAugS ga gb g f E γ S := q
theorem i_tname {QS : Sl → Sto → Prop} (q : QS (γ.set i (some d)) S) : tName i d γ S QS := q
theorem i_ttup {n : Nat} {ds : List D} {gs : GGs} {QS : Sl → Sto → Prop} (e : ds.length = n) (q : gs ds γ S QS) : tTup n gs (.tup ds) γ S QS := ⟨e, q⟩
theorem i_tcons {ds : List D} {g1 : GG} {gs : GGs} {QS : Sl → Sto → Prop} (q : g1 d γ S fun γ1 S1 => gs ds γ1 S1 QS) : tCons g1 gs (d :: ds) γ S QS := q
theorem i_tnil {QS : Sl → Sto → Prop} (q : QS γ S) : G.tNil [] γ S QS := ⟨rfl, q⟩
theorem i_tsub {QS : Sl → Sto → Prop} (q : ga γ S fun x S1 => gb γ S1 fun y S2 => dSet x y d S2 fun S3 => QS γ S3) : G.tSub ga gb d γ S QS := q
theorem i_var (e : γ[i]? = some (some d)) (q : Q d S) : gVar i γ S Q := by
  unfold gVar
  rw [e]
  exact q
theorem i_c (q : Q d S) : gC d γ S Q := q
theorem i_bin (q : ga γ S fun x S1 => gb γ S1 fun y S2 => f x y S2 Q) : gBin f ga gb γ S Q := q
theorem i_un (q : ga γ S fun x S1 => f1 x S1 Q) : gUn f1 ga γ S Q := q
theorem i_call (q : al γ S fun xs S1 => fl xs S1 Q) : gCall fl al γ S Q := q
theorem i_fn {R : Rel} {dds : List D} (q : al γ S fun xs S1 => R (xs ++ dds) S1 Q) : gFn R dds al γ S Q := q
theorem i_anil (q : QL [] S) : aNil γ S QL := q
theorem i_acons (q : ga γ S fun x S1 => al γ S1 fun xs S2 => QL (x :: xs) S2) : aCons ga al γ S QL := q
theorem i_tup (q : al γ S fun ds S1 => ds.length ≤ sizeLine ∧ Q (.tup ds) S1) : gTup al γ S Q := q
theorem i_lst (q : al γ S fun ds S1 => ds.length ≤ sizeLine ∧ Q (.loc S1.length) (S1 ++ [.lst ds])) : gLst al γ S Q := q
theorem i_test (q : g γ S fun d S1 => match d with
    | .bl k => QB k S1
    | _ => False) : bTest g γ S QB := q
def onB (o : Option Bool) (S : Sto) (QB : Bool → Sto → Prop) : Prop := match o with
  | some k => QB k S
  | none => False
theorem i_truth (q : g γ S fun d S1 => onB (truD d S1) S1 QB) : bTruth g γ S QB := q
theorem i_onT {xs : List D} (q : QB (!xs.isEmpty) S) : onB (truD (.tup xs) S) S QB := q
theorem i_onI {a : Int} (q : QB (a != 0) S) : onB (truD (.int a) S) S QB := q
theorem i_onK {k : Bool} (q : QB k S) : onB (truD (.bl k) S) S QB := q
theorem i_onN (q : QB false S) : onB (truD .non S) S QB := q
theorem i_onL {l : Nat} {xs : List D} (e : S[l]? = some (.lst xs)) (q : QB (!xs.isEmpty) S) : onB (truD (.loc l) S) S QB := by
  have e2 : truD (.loc l) S = some (!xs.isEmpty) := by
    show (match S[l]? with
      | some (.lst ds) => some (!ds.isEmpty)
      | some (.dic kvs) => some (!kvs.isEmpty)
      | _ => none) = _
    rw [e]
  rw [e2]
  exact q
theorem i_bnot (q : t γ S fun k S1 => QB (!k) S1) : bNot t γ S QB := q
theorem i_band (q : t γ S fun k S1 => if k = true then u γ S1 QB else QB false S1) : bAnd t u γ S QB := q
theorem i_bor (q : t γ S fun k S1 => if k = true then QB true S1 else u γ S1 QB) : bOr t u γ S QB := q
theorem i_gif (q : t γ S fun k S1 => if k = true then ga γ S1 Q else gb γ S1 Q) : gIf t ga gb γ S Q := q
theorem i_gand (q : ga γ S fun x S1 => match x with
    | .bl true => gb γ S1 Q
    | .bl false => Q (.bl false) S1
    | _ => False) : gAnd ga gb γ S Q := q
theorem i_gor (q : ga γ S fun x S1 => match x with
    | .bl true => Q (.bl true) S1
    | .bl false => gb γ S1 Q
    | _ => False) : gOr ga gb γ S Q := q
theorem i_gnot (q : ga γ S fun x S1 => onB (truD x S1) S1 fun k S2 => Q (.bl (!k)) S2) : gNot ga γ S Q := q
theorem i_sl {gl gh : TP2} (q : ga γ S fun x S1 => gl γ S1 fun l S2 => gh γ S2 fun h S3 => dSl x l h S3 Q) : gSl ga gl gh γ S Q := q
theorem i_pnone {QP : Option Int → Sto → Prop} (q : QP none S) : pNone γ S QP := q
theorem i_psome {QP : Option Int → Sto → Prop} (q : g γ S fun x S1 => match x with
    | .int i => QP (some i) S1
    | _ => False) : pSome g γ S QP := q
theorem i_meth (q : ga γ S fun x S1 => isL x S1 = true ∧ al γ S1 fun xs S2 => fm x xs S2 Q) : gMeth fm ga al γ S Q := q
theorem i_for {w : GIt} {tg : GG} (q : w γ S fun it S1 => each it.ok tg s1 E it.xs γ S1) : sFor w tg s1 E γ S := q
theorem i_wrange1 {QI : Items → Sto → Prop} (q : al γ S fun xs S1 => match xs with
    | [.int j] => (-(2 ^ 62) ≤ j ∧ j < 2 ^ 62) ∧ QI ⟨fun _ => True, rng 0 j.toNat⟩ S1
    | _ => False) : wRange1 al γ S QI := q
theorem i_wrange2 {QI : Items → Sto → Prop} (q : al γ S fun xs S1 => match xs with
    | [.int i, .int j] => (-(2 ^ 62) ≤ i ∧ i < 2 ^ 62 ∧ -(2 ^ 62) ≤ j ∧ j < 2 ^ 62) ∧ QI ⟨fun _ => True, rng i (j - i).toNat⟩ S1
    | _ => False) : wRange2 al γ S QI := q
def onS (x : D) (S : Sto) (QI : Items → Sto → Prop) : Prop := match x with
  | .tup ds => QI ⟨fun _ => True, ds⟩ S
  | .frl ds => QI ⟨fun _ => True, ds⟩ S
  | .loc l => match S[l]? with
    | some (.lst ds) => QI ⟨fun S => S[l]? = some (.lst ds), ds⟩ S
    | _ => False
  | _ => False
def onR (x : D) (S : Sto) (QI : Items → Sto → Prop) : Prop := match x with
  | .tup ds => QI ⟨fun _ => True, ds.reverse⟩ S
  | .loc l => match S[l]? with
    | some (.lst ds) => QI ⟨fun S => S[l]? = some (.lst ds), ds.reverse⟩ S
    | _ => False
  | _ => False
theorem i_wseq {QI : Items → Sto → Prop} (q : ga γ S fun x S1 => onS x S1 QI) : wSeq ga γ S QI := q
theorem i_wrev {QI : Items → Sto → Prop} (q : ga γ S fun x S1 => onR x S1 QI) : wRev ga γ S QI := q
theorem i_onST {QI : Items → Sto → Prop} {xs : List D} (q : QI ⟨fun _ => True, xs⟩ S) : onS (.tup xs) S QI := q
theorem i_onSF {QI : Items → Sto → Prop} {xs : List D} (q : QI ⟨fun _ => True, xs⟩ S) : onS (.frl xs) S QI := q
theorem i_onSL {QI : Items → Sto → Prop} {xs : List D} {l : Nat} (e : S[l]? = some (.lst xs)) (q : QI ⟨fun S => S[l]? = some (.lst xs), xs⟩ S) : onS (.loc l) S QI := by
  show (match S[l]? with
    | some (.lst ds) => QI ⟨fun S => S[l]? = some (.lst ds), ds⟩ S
    | _ => False)
  rw [e]
  exact q
theorem i_onRT {QI : Items → Sto → Prop} {xs : List D} (q : QI ⟨fun _ => True, xs.reverse⟩ S) : onR (.tup xs) S QI := q
theorem i_onRL {QI : Items → Sto → Prop} {xs : List D} {l : Nat} (e : S[l]? = some (.lst xs)) (q : QI ⟨fun S => S[l]? = some (.lst xs), xs.reverse⟩ S) : onR (.loc l) S QI := by
  show (match S[l]? with
    | some (.lst ds) => QI ⟨fun S => S[l]? = some (.lst ds), ds.reverse⟩ S
    | _ => False)
  rw [e]
  exact q
theorem i_lc {w : GIt} {tg : GG} {vs : List Nat} (q : w γ S fun it S1 => comp it.ok tg t g S1.length (wip γ vs) Q it.xs (S1 ++ [.lst []])) : gLc w tg t g vs γ S Q := q
theorem i_byes (q : QB true S) : bYes γ S QB := q
/-! operators at data -/
variable {a b : Int} {xs ys : List D}
theorem i_add (q : Q (.int (a + b)) S) : dAdd (.int a) (.int b) S Q := q
theorem i_addT (e : xs.length + ys.length ≤ sizeLine) (q : Q (.tup (xs ++ ys)) S) : dAdd (.tup xs) (.tup ys) S Q := ⟨e, q⟩
theorem i_sub (q : Q (.int (a - b)) S) : dSub (.int a) (.int b) S Q := q
theorem i_mul (e : CMul a b ∨ CMulW a b) (q : Q (.int (a * b)) S) : dMul (.int a) (.int b) S Q := ⟨e, q⟩
theorem i_mulr (e1 : -(2 ^ 64) < b) (e2 : b < 2 ^ 64) (q : Q (.int (a * b)) S) : dMul (.int a) (.int b) S Q := ⟨.inl (.inr ⟨e1, e2⟩), q⟩
theorem i_mull (e1 : -(2 ^ 64) < a) (e2 : a < 2 ^ 64) (q : Q (.int (a * b)) S) : dMul (.int a) (.int b) S Q := ⟨.inl (.inl ⟨e1, e2⟩), q⟩
theorem i_mod (e : 0 < b) (q : Q (.int (a % b)) S) : dMod (.int a) (.int b) S Q := ⟨e, q⟩
theorem i_div (e : CDivW a b) (q : Q (.int (a / b)) S) : dDiv (.int a) (.int b) S Q := ⟨e, q⟩
theorem i_pow (e1 : 0 ≤ b) (e2 : b ≤ 1000000) (e3 : a.natAbs < 2 ^ 64) (q : Q (.int (a ^ b.toNat)) S) : dPow (.int a) (.int b) S Q := ⟨⟨e1, e2, e3⟩, q⟩
theorem i_neg (q : Q (.int (-a)) S) : dNeg (.int a) S Q := q
theorem i_cmp {p : Int → Int → Bool} (q : Q (.bl (p a b)) S) : dCmp p (.int a) (.int b) S Q := q
theorem i_eq (q : Q (.bl (decide (a = b))) S) : dEq false (.int a) (.int b) S Q := by
  show Q (.bl (false ^^ decide (a = b))) S
  rw [Bool.false_xor]
  exact q
theorem i_ne (q : Q (.bl (!decide (a = b))) S) : dEq true (.int a) (.int b) S Q := by
  show Q (.bl (true ^^ decide (a = b))) S
  rw [Bool.true_xor]
  exact q
theorem i_eqS {s t : Str} (q : Q (.bl (decide (s = t))) S) : dEq false (.str s) (.str t) S Q := by
  show Q (.bl (false ^^ decide (s = t))) S
  rw [Bool.false_xor]
  exact q
theorem i_neB {k m : Bool} (q : Q (.bl (k ^^ m)) S) : dEq true (.bl k) (.bl m) S Q := by
  refine ⟨rfl, rfl, ?_⟩
  rw [show (true ^^ PyData.eqv (.bool k) (.bool m)) = (k ^^ m) from by cases k <;> cases m <;> rfl]
  exact q
theorem i_is (q : Q (.bl (isNon d)) S) : dIs false d .non S Q := by
  show Q (.bl (false ^^ isNon d)) S
  rw [Bool.false_xor]
  exact q
theorem i_isnot (q : Q (.bl (!isNon d)) S) : dIs true d .non S Q := by
  show Q (.bl (true ^^ isNon d)) S
  rw [Bool.true_xor]
  exact q
theorem i_ixT (e : atI xs a = some d) (q : Q d S) : dIx (.tup xs) (.int a) S Q := by
  show (match atI xs a with
    | some d => Q d S
    | none => False)
  rw [e]
  exact q
theorem i_ixL {l : Nat} (e1 : S[l]? = some (.lst xs)) (e : atI xs a = some d) (q : Q d S) : dIx (.loc l) (.int a) S Q := by
  show (match S[l]? with
    | some (.lst ds) => match atI ds a with
      | some d => Q d S
      | none => False
    | _ => False)
  rw [e1]
  show (match atI xs a with
    | some d => Q d S
    | none => False)
  rw [e]
  exact q
theorem i_getL {l : Nat} (e1 : S[l]? = some (.lst xs)) (e : atI xs a = some d) (q : Q d S) : dGet (.loc l) (.int a) S Q := by
  show (match S[l]? with
    | some (.lst ds) => match atI ds a with
      | some d => Q d S
      | none => False
    | _ => False)
  rw [e1]
  show (match atI xs a with
    | some d => Q d S
    | none => False)
  rw [e]
  exact q
theorem i_setL {l j : Nat} {QS : Sto → Prop} (e1 : S[l]? = some (.lst xs)) (e : ixN xs.length a = some j) (q : QS (S.set l (.lst (xs.set j d)))) : dSet (.loc l) (.int a) d S QS := by
  show (match S[l]? with
    | some (.lst ds) => match ixN ds.length a with
      | some j => QS (S.set l (.lst (ds.set j d)))
      | none => False
    | _ => False)
  rw [e1]
  show (match ixN xs.length a with
    | some j => QS (S.set l (.lst (xs.set j d)))
    | none => False)
  rw [e]
  exact q
theorem i_lenT (q : Q (.int xs.length) S) : bLen [.tup xs] S Q := q
theorem i_lenF (q : Q (.int xs.length) S) : bLen [.frl xs] S Q := q
theorem i_lenL {l : Nat} (e1 : S[l]? = some (.lst xs)) (q : Q (.int xs.length) S) : bLen [.loc l] S Q := by
  show (match S[l]? with
    | some (.lst ds) => Q (.int ds.length) S
    | _ => False)
  rw [e1]
  exact q
theorem i_int (q : Q (.int a) S) : bInt [.int a] S Q := q
theorem i_intb {k : Bool} (q : Q (.int (if k then 1 else 0)) S) : bInt [.bl k] S Q := q
theorem i_abs (q : Q (.int (if a < 0 then -a else a)) S) : bAbs [.int a] S Q := q
theorem i_max (q : Q (.int (if b > a then b else a)) S) : bMax [.int a, .int b] S Q := q
theorem i_min2 (q : Q (.int (if b < a then b else a)) S) : bMinL [.int a, .int b] S Q := q
theorem i_tupleT (q : Q (.tup xs) S) : bTuple [.tup xs] S Q := q
theorem i_tupleL {l : Nat} (e1 : S[l]? = some (.lst xs)) (q : Q (.tup xs) S) : bTuple [.loc l] S Q := by
  show (match S[l]? with
    | some (.lst ds) => Q (.tup ds) S
    | _ => False)
  rw [e1]
  exact q
theorem i_listF (q : Q (.loc S.length) (S ++ [.lst xs])) : bList [.frl xs] S Q := q
theorem i_listT (q : Q (.loc S.length) (S ++ [.lst xs])) : bList [.tup xs] S Q := q
theorem i_sum {l : Nat} {ns : List Int} (e1 : S[l]? = some (.lst xs)) (e : ints? xs = some ns) (q : Q (.int ns.sum) S) : bSum [.loc l] S Q := by
  show (match S[l]? with
    | some (.lst ds) => match ints? ds with
      | some ns => Q (.int ns.sum) S
      | none => False
    | _ => False)
  rw [e1]
  show (match ints? xs with
      | some ns => Q (.int ns.sum) S
      | none => False)
  rw [e]
  exact q
theorem i_isl {l : Nat} {P : Prop} (e1 : S[l]? = some (.lst xs)) (q : P) : isL (.loc l) S = true ∧ P := by
  refine ⟨?_, q⟩
  show (match S[l]? with
    | some (.lst _) => true
    | _ => false) = true
  rw [e1]
theorem i_append {l : Nat} (e1 : S[l]? = some (.lst xs)) (e : xs.length < sizeLine) (q : Q .non (S.set l (.lst (xs ++ [d])))) : mAppend (.loc l) [d] S Q := by
  show (match S[l]? with
    | some (.lst ds) => ds.length < sizeLine ∧ Q .non (S.set l (.lst (ds ++ [d])))
    | _ => False)
  rw [e1]
  exact ⟨e, q⟩
theorem i_pop {l : Nat} (e1 : S[l]? = some (.lst (xs ++ [d]))) (q : Q d (S.set l (.lst xs))) : mPop (.loc l) [] S Q := by
  show (match S[l]? with
    | some (.lst ds) => match ds[ds.length - 1]? with
      | some d => Q d (S.set l (.lst ds.dropLast))
      | none => False
    | _ => False)
  rw [e1]
  show (match (xs ++ [d])[(xs ++ [d]).length - 1]? with
      | some y => Q y (S.set l (.lst (xs ++ [d]).dropLast))
      | none => False)
  rw [List.length_append, List.length_singleton, Nat.add_sub_cancel, List.getElem?_append_right (Nat.le_refl _), Nat.sub_self, List.dropLast_concat]
  exact q
theorem i_insert {l : Nat} (e1 : S[l]? = some (.lst xs)) (e : xs.length < sizeLine ∧ 0 ≤ a ∧ a < 2 ^ 63) (q : Q .non (S.set l (.lst (xs.take a.toNat ++ [d] ++ xs.drop a.toNat)))) : mInsert (.loc l) [.int a, d] S Q := by
  show (match S[l]? with
    | some (.lst ds) => (ds.length < sizeLine ∧ 0 ≤ a ∧ a < 2 ^ 63) ∧ Q .non (S.set l (.lst (ds.take a.toNat ++ [d] ++ ds.drop a.toNat)))
    | _ => False)
  rw [e1]
  exact ⟨e, q⟩
theorem i_slT {l u : Option Int} (q : Q (.tup (cutD xs l u)) S) : dSl (.tup xs) l u S Q := q
theorem i_slL {l u : Option Int} {p : Nat} (e1 : S[p]? = some (.lst xs)) (q : Q (.loc S.length) (S ++ [.lst (cutD xs l u)])) : dSl (.loc p) l u S Q := by
  show (match S[p]? with
    | some (.lst ds) => Q (.loc S.length) (S ++ [.lst (cutD ds l u)])
    | _ => False)
  rw [e1]
  exact q
theorem i_kp {S0 : Sto} (q : Q d S) : Kp S0 Q d S := .of q
theorem kp_pre {S0 S g : Sto} (c : ClS S) (h : S0.length ≤ S.length) (hd : Cl S.length d = true) (q : Q d S) : Kp S0 Q d (S ++ g) := ⟨S, .inr ⟨⟨g, rfl⟩, h, c, hd⟩, q⟩
theorem i_comp {l : Nat} {R : Sto → Prop} (e : S[l]? = some (.lst xs)) (h : xs.length < sizeLine) (q : R (S.set l (.lst (xs ++ [d])))) : (match S[l]? with
      | some (.lst acc) => acc.length < sizeLine ∧ R (S.set l (.lst (acc ++ [d])))
      | _ => False) := by
  rw [e]
  exact ⟨h, q⟩
theorem small_size {n : Nat} (h : n ≤ 1000000) : n ≤ sizeLine := Nat.le_trans h (by decide)
theorem small_lt {n : Nat} (h : n ≤ 1000000) : n < sizeLine := Nat.lt_of_le_of_lt h (by decide)
theorem i_sz {P : Prop} (h : Nat.ble xs.length 1000000 = true) (q : P) : xs.length ≤ sizeLine ∧ P := ⟨small_size (Nat.le_of_ble_eq_true h), q⟩
theorem i_fin {S0 : Sto} (q : Q d S) : (fnE S0 Q).rt d S := .of q
theorem i_fin0 {S0 : Sto} (q : Q .non S) : (fnE S0 Q).nx γ S := .of q
theorem i_ite {p A B : Prop} [Decidable p] (h1 : p → A) (h2 : ¬ p → B) : if decide p = true then A else B := by
  by_cases h : p
  · rw [if_pos (decide_eq_true h)]
    exact h1 h
  · rw [if_neg (by rw [decide_eq_false h]; exact Bool.false_ne_true)]
    exact h2 h
theorem i_iten {p A B : Prop} [Decidable p] (h1 : ¬ p → A) (h2 : p → B) : if (!decide p) = true then A else B := by
  by_cases h : p
  · rw [decide_eq_true h]
    exact h2 h
  · rw [decide_eq_false h]
    exact h1 h
theorem i_iteb {k : Bool} {A B : Prop} (h1 : k = true → A) (h2 : k = false → B) : if k = true then A else B := by
  cases k with
  | true => exact h1 rfl
  | false => exact h2 rfl
theorem i_itenb {k : Bool} {A B : Prop} (h1 : k = false → A) (h2 : k = true → B) : if (!k) = true then A else B := by
  cases k with
  | true => exact h2 rfl
  | false => exact h1 rfl
theorem i_yes {k : Bool} {A B : Prop} (e : k = true) (h : A) : if k = true then A else B := by
  rw [if_pos e]
  exact h
theorem i_no {k : Bool} {A B : Prop} (e : k = false) (h : B) : if k = true then A else B := by
  subst e
  exact h
theorem i_t {A B : Prop} (h : A) : if true = true then A else B := h
theorem i_f {A B : Prop} (h : B) : if false = true then A else B := h
end
end G
section
open PySem PySem.Spec L2 G
/-! the readings of the defs that many laws share (printed by gen.py) -/
namespace W
def b__law_tape : GTS :=
  sSeq (sAsg (gC (.int 7)) (tName 1))
  (sSeq (sFor (wSeq (gVar 0)) (tName 2)
  (sAsg (gBin dMod (gCall bInt (aCons (gBin dAdd (gBin dMul (gVar 1) (gC (.int 31))) (gCall bAbs (aCons (gCall bInt (aCons (gVar 2) (aNil))) (aNil)))) (aNil))) (gC (.int 2147483647))) (tName 1)))
  (sRet (gLst (aCons (gCall bList (aCons (gVar 0) (aNil))) (aCons (gC (.int 0)) (aCons (gC (.int 0)) (aCons (gVar 1) (aNil))))))))
def b__law_draw : GTS :=
  sSeq (sIf (bTest (gBin (dEq false) (gBin dIx (gVar 0) (gC (.int 2))) (gC (.int 0)))) (sSeq (sAsg (gBin dIx (gVar 0) (gC (.int 1))) (tName 3))
  (sSeq (sAsg (gC (.int 0)) (tName 2))
  (sSeq (sIf (bTest (gBin dLt (gVar 3) (gCall bLen (aCons (gBin dIx (gVar 0) (gC (.int 0))) (aNil))))) (sAsg (gCall bAbs (aCons (gCall bInt (aCons (gBin dIx (gBin dIx (gVar 0) (gC (.int 0))) (gVar 3)) (aNil))) (aNil))) (tName 2)) (sSeq (sAsg (gBin dMod (gCall bInt (aCons (gBin dAdd (gBin dAdd (gBin dMul (gBin dIx (gVar 0) (gC (.int 3))) (gC (.int 48271))) (gVar 3)) (gC (.int 1))) (aNil))) (gC (.int 2147483647))) (tSub (gVar 0) (gC (.int 3))))
  (sAsg (gBin dIx (gVar 0) (gC (.int 3))) (tName 2))))
  (sSeq (sAsg (gBin dAdd (gVar 3) (gC (.int 1))) (tSub (gVar 0) (gC (.int 1))))
  (sSeq (sIf (bTest (gBin dLt (gVar 2) (gBin dPow (gC (.int 10)) (gC (.int 18))))) (sSeq (sAsg (gBin dMod (gCall bInt (aCons (gBin dAdd (gBin dAdd (gBin dMul (gVar 2) (gC (.int 48271))) (gBin dMul (gVar 3) (gC (.int 69621)))) (gC (.int 5))) (aNil))) (gC (.int 2147483647))) (tName 2))
  (sSeq (sAsg (gBin dMod (gCall bInt (aCons (gBin dMul (gVar 2) (gC (.int 69621))) (aNil))) (gC (.int 2147483629))) (tName 2))
  (sRet (gBin dMod (gCall bInt (aCons (gVar 2) (aNil))) (gCall bMax (aCons (gVar 1) (aCons (gC (.int 1)) (aNil)))))))) (sNext))
  (sAsg (gVar 2) (tSub (gVar 0) (gC (.int 2))))))))) (sNext))
  (sSeq (sAsg (gBin dIx (gVar 0) (gC (.int 2))) (tName 2))
  (sSeq (sAsg (gBin dDiv (gVar 2) (gCall bMax (aCons (gVar 1) (aCons (gC (.int 2)) (aNil))))) (tSub (gVar 0) (gC (.int 2))))
  (sRet (gBin dMod (gCall bInt (aCons (gVar 2) (aNil))) (gCall bMax (aCons (gVar 1) (aCons (gC (.int 1)) (aNil))))))))
def b__law_price (R__law_draw : Rel) : GTS :=
  sSeq (sIf (bTest (gBin (dEq false) (gFn R__law_draw [] (aCons (gVar 0) (aCons (gC (.int 8)) (aNil)))) (gC (.int 0)))) (sRet (gC .non)) (sNext))
  (sSeq (sAsg (gFn R__law_draw [] (aCons (gVar 0) (aCons (gBin dIx (gLst (aCons (gC (.int 1)) (aCons (gC (.int 2)) (aCons (gC (.int 10)) (aCons (gBin dAdd (gBin dPow (gC (.int 10)) (gC (.int 9))) (gC (.int 1))) (aNil)))))) (gVar 1)) (aNil)))) (tName 3))
  (sSeq (sIf (bAnd (bTest (gBin (dEq false) (gVar 2) (gC (.int 1)))) (bTest (gBin (dEq false) (gFn R__law_draw [] (aCons (gVar 0) (aCons (gC (.int 3)) (aNil)))) (gC (.int 0))))) (sAsg (gUn dNeg (gVar 3)) (tName 3)) (sNext))
  (sRet (gVar 3))))
def b__law_family (R__law_draw : Rel) (R__law_price : Rel) : GTS :=
  sSeq (sAsg (gBin dAdd (gC (.int 1)) (gFn R__law_draw [] (aCons (gVar 0) (aCons (gVar 1) (aNil))))) (tName 4))
  (sSeq (sAsg (gFn R__law_draw [] (aCons (gVar 0) (aCons (gC (.int 8)) (aNil)))) (tName 5))
  (sSeq (sAsg (gFn R__law_draw [] (aCons (gVar 0) (aCons (gC (.int 4)) (aNil)))) (tName 6))
  (sSeq (sAsg (gLst (aNil)) (tName 7))
  (sSeq (sFor (wRange1 (aCons (gFn R__law_draw [] (aCons (gVar 0) (aCons (gBin dAdd (gVar 2) (gC (.int 1))) (aNil)))) (aNil))) (tName 8)
  (sSeq (sAsg (gFn R__law_draw [] (aCons (gVar 0) (aCons (gVar 4) (aNil)))) (tName 10))
  (sSeq (sAsg (gLst (aNil)) (tName 11))
  (sSeq (sFor (wRange1 (aCons (gBin dIx (gLst (aCons (gC (.int 0)) (aCons (gC (.int 1)) (aCons (gC (.int 1)) (aCons (gC (.int 2)) (aCons (gC (.int 2)) (aCons (gC (.int 3)) (aNil)))))))) (gFn R__law_draw [] (aCons (gVar 0) (aCons (gC (.int 6)) (aNil))))) (aNil))) (tName 12)
  (sSeq (sAsg (gFn R__law_draw [] (aCons (gVar 0) (aCons (gVar 4) (aNil)))) (tName 15))
  (sSeq (sIf (bTest (gBin (dEq false) (gVar 5) (gC (.int 0)))) (sAsg (gBin dAdd (gBin dAdd (gVar 10) (gC (.int 1))) (gVar 15)) (tName 15)) (sNext))
  (sSeq (sIf (bTest (gBin (dEq false) (gVar 5) (gC (.int 1)))) (sAsg (gBin dSub (gBin dSub (gVar 10) (gC (.int 1))) (gVar 15)) (tName 15)) (sNext))
  (sIf (bAnd (bTest (gBin dLe (gC (.int 0)) (gVar 15))) (bTest (gBin dLt (gVar 15) (gVar 4)))) (sExpr (gMeth mAppend (gVar 11) (aCons (gVar 15) (aNil)))) (sNext))))))
  (sSeq (sAsg (gTup (aCons (gVar 10) (aCons (gCall bTuple (aCons (gVar 11) (aNil))) (aCons (gFn R__law_price [] (aCons (gVar 0) (aCons (gVar 6) (aCons (gVar 3) (aNil))))) (aNil))))) (tName 13))
  (sSeq (sIf (bAnd (bTruth (gVar 7)) (bTest (gBin (dEq false) (gFn R__law_draw [] (aCons (gVar 0) (aCons (gC (.int 8)) (aNil)))) (gC (.int 0))))) (sAsg (gBin dIx (gVar 7) (gFn R__law_draw [] (aCons (gVar 0) (aCons (gCall bLen (aCons (gVar 7) (aNil))) (aNil))))) (tName 13)) (sNext))
  (sExpr (gMeth mAppend (gVar 7) (aCons (gVar 13) (aNil))))))))))
  (sSeq (sIf (bTest (gBin (dEq false) (gFn R__law_draw [] (aCons (gVar 0) (aCons (gC (.int 2)) (aNil)))) (gC (.int 0)))) (sFor (wRange1 (aCons (gVar 4) (aNil))) (tName 14)
  (sExpr (gMeth mInsert (gVar 7) (aCons (gFn R__law_draw [] (aCons (gVar 0) (aCons (gBin dAdd (gCall bLen (aCons (gVar 7) (aNil))) (gC (.int 1))) (aNil)))) (aCons (gTup (aCons (gVar 14) (aCons (gTup (aNil)) (aCons (gFn R__law_price [] (aCons (gVar 0) (aCons (gVar 6) (aCons (gVar 3) (aNil))))) (aNil))))) (aNil)))))) (sNext))
  (sSeq (sAsg (gLc (wRange1 (aCons (gVar 4) (aNil))) (tName 14) (bTest (gBin dGt (gFn R__law_draw [] (aCons (gVar 0) (aCons (gC (.int 3)) (aNil)))) (gC (.int 0)))) (gVar 14) [14]) (tName 9))
  (sSeq (sIf (bAnd (bNot (bTruth (gVar 9))) (bTest (gBin dGt (gFn R__law_draw [] (aCons (gVar 0) (aCons (gC (.int 8)) (aNil)))) (gC (.int 0))))) (sAsg (gLst (aCons (gFn R__law_draw [] (aCons (gVar 0) (aCons (gVar 4) (aNil)))) (aNil))) (tName 9)) (sNext))
  (sRet (gTup (aCons (gVar 4) (aCons (gCall bTuple (aCons (gVar 9) (aNil))) (aCons (gCall bTuple (aCons (gVar 7) (aNil))) (aNil)))))))))))))
def b__law_size : GTS :=
  sSeq (sIf (bTest (gBin (dIs false) (gBin dIx (gVar 0) (gC (.int 2))) (gC .non))) (sRet (gC .non)) (sNext))
  (sSeq (sAsg (gC (.int 1)) (tName 2))
  (sSeq (sFor (wSeq (gBin dIx (gVar 0) (gC (.int 1)))) (tName 3)
  (sSeq (sIf (bTest (gBin (dIs false) (gBin dIx (gVar 1) (gVar 3)) (gC .non))) (sRet (gC .non)) (sNext))
  (sAsg (gBin dAdd (gVar 2) (gBin dIx (gVar 1) (gVar 3))) (tName 2))))
  (sRet (gVar 2))))
def b__law_sizes (R__law_size : Rel) : GTS :=
  sSeq (sAsg (gLc (wRange1 (aCons (gBin dIx (gVar 0) (gC (.int 0))) (aNil))) (tName 6) (bYes) (gC .non) [6]) (tName 1))
  (sSeq (sFor (wRange1 (aCons (gBin dAdd (gBin dIx (gVar 0) (gC (.int 0))) (gC (.int 1))) (aNil))) (tName 2)
  (sSeq (sAsg (gC (.bl false)) (tName 3))
  (sSeq (sFor (wSeq (gBin dIx (gVar 0) (gC (.int 2)))) (tName 4)
  (sSeq (sAsg (gFn R__law_size [] (aCons (gVar 4) (aCons (gVar 1) (aNil)))) (tName 5))
  (sIf (bAnd (bTest (gBin (dIs true) (gVar 5) (gC .non))) (bOr (bTest (gBin (dIs false) (gBin dIx (gVar 1) (gBin dIx (gVar 4) (gC (.int 0)))) (gC .non))) (bTest (gBin dLt (gVar 5) (gBin dIx (gVar 1) (gBin dIx (gVar 4) (gC (.int 0)))))))) (sSeq (sAsg (gVar 5) (tSub (gVar 1) (gBin dIx (gVar 4) (gC (.int 0)))))
  (sAsg (gC (.bl true)) (tName 3))) (sNext))))
  (sIf (bNot (bTruth (gVar 3))) (sBrk) (sNext)))))
  (sRet (gVar 1)))
def b__law_priced : GTS :=
  sRet (gCall bSum (aCons (gLc (wSeq (gVar 1)) (tName 2) (bYes) (gBin dIx (gBin dIx (gBin dIx (gVar 0) (gC (.int 2))) (gVar 2)) (gC (.int 2))) [2]) (aNil)))
def b__law_tree (R__law_size : Rel) (R__law_draw : Rel) : GTS :=
  sSeq (sAsg (gLst (aCons (gVar 3) (aNil))) (tName 5))
  (sSeq (sAsg (gBin dIx (gVar 2) (gVar 3)) (tName 6))
  (sSeq (sAsg (gLst (aNil)) (tName 7))
  (sSeq (sFor (wRange1 (aCons (gCall bMax (aCons (gVar 4) (aCons (gBin dIx (gVar 2) (gVar 3)) (aNil)))) (aNil))) (tName 8)
  (sSeq (sIf (bNot (bTruth (gVar 5))) (sBrk) (sNext))
  (sSeq (sAsg (gMeth mPop (gVar 5) aNil) (tName 9))
  (sSeq (sAsg (gBin dSub (gVar 6) (gBin dIx (gVar 2) (gVar 9))) (tName 6))
  (sSeq (sAsg (gLst (aNil)) (tName 10))
  (sSeq (sFor (wRange1 (aCons (gCall bLen (aCons (gBin dIx (gVar 1) (gC (.int 2))) (aNil))) (aNil))) (tName 11)
  (sSeq (sAsg (gFn R__law_size [] (aCons (gBin dIx (gBin dIx (gVar 1) (gC (.int 2))) (gVar 11)) (aCons (gVar 2) (aNil)))) (tName 13))
  (sIf (bAnd (bTest (gBin (dEq false) (gBin dIx (gBin dIx (gBin dIx (gVar 1) (gC (.int 2))) (gVar 11)) (gC (.int 0))) (gVar 9))) (bTest (gBin (dIs true) (gVar 13) (gC .non)))) (sIf (bOr (bTest (gBin (dEq false) (gVar 13) (gBin dIx (gVar 2) (gVar 9)))) (bTest (gBin dLe (gBin dAdd (gBin dAdd (gCall bLen (aCons (gVar 7) (aNil))) (gVar 6)) (gVar 13)) (gVar 4)))) (sExpr (gMeth mAppend (gVar 10) (aCons (gVar 11) (aNil)))) (sNext)) (sNext))))
  (sSeq (sAsg (gBin dIx (gVar 10) (gFn R__law_draw [] (aCons (gVar 0) (aCons (gCall bLen (aCons (gVar 10) (aNil))) (aNil))))) (tName 11))
  (sSeq (sExpr (gMeth mAppend (gVar 7) (aCons (gVar 11) (aNil))))
  (sSeq (sAsg (gBin dSub (gBin dAdd (gVar 6) (gFn R__law_size [] (aCons (gBin dIx (gBin dIx (gVar 1) (gC (.int 2))) (gVar 11)) (aCons (gVar 2) (aNil))))) (gC (.int 1))) (tName 6))
  (sFor (wRev (gBin dIx (gBin dIx (gBin dIx (gVar 1) (gC (.int 2))) (gVar 11)) (gC (.int 1)))) (tName 12)
  (sExpr (gMeth mAppend (gVar 5) (aCons (gVar 12) (aNil))))))))))))))
  (sRet (gCall bTuple (aCons (gVar 7) (aNil)))))))
def b__law_ways (R__law_ways : Rel) : GTS :=
  sSeq (sIf (bNot (bTruth (gVar 1))) (sRet (gCall bInt (aCons (gBin (dEq false) (gVar 2) (gC (.int 0))) (aNil)))) (sNext))
  (sSeq (sIf (bTest (gBin (dEq false) (gCall bLen (aCons (gVar 1) (aNil))) (gC (.int 1)))) (sRet (gBin dIx (gBin dIx (gVar 0) (gVar 2)) (gBin dIx (gVar 1) (gC (.int 0))))) (sNext))
  (sSeq (sAsg (gC (.int 0)) (tName 3))
  (sSeq (sFor (wRange2 (aCons (gC (.int 1)) (aCons (gVar 2) (aNil)))) (tName 4)
  (sSeq (sAsg (gBin dIx (gBin dIx (gVar 0) (gVar 4)) (gBin dIx (gVar 1) (gC (.int 0)))) (tName 5))
  (sIf (bTest (gBin dGt (gVar 5) (gC (.int 0)))) (sAsg (gBin dAdd (gVar 3) (gBin dMul (gVar 5) (gFn R__law_ways [] (aCons (gVar 0) (aCons (gSl (gVar 1) (pSome (gC (.int 1))) (pNone)) (aCons (gBin dSub (gVar 2) (gVar 4)) (aNil))))))) (tName 3)) (sNext))))
  (sRet (gVar 3)))))
def b__law_counts (R__law_ways : Rel) : GTS :=
  sSeq (sAsg (gLst (aCons (gLc (wRange1 (aCons (gBin dIx (gVar 0) (gC (.int 0))) (aNil))) (tName 6) (bYes) (gC (.int 0)) [6]) (aNil))) (tName 2))
  (sSeq (sFor (wRange2 (aCons (gC (.int 1)) (aCons (gBin dAdd (gVar 1) (gC (.int 1))) (aNil)))) (tName 3)
  (sSeq (sAsg (gLc (wRange1 (aCons (gBin dIx (gVar 0) (gC (.int 0))) (aNil))) (tName 6) (bYes) (gC (.int 0)) [6]) (tName 4))
  (sSeq (sFor (wSeq (gBin dIx (gVar 0) (gC (.int 2)))) (tName 5)
  (sIf (bTest (gBin (dIs true) (gBin dIx (gVar 5) (gC (.int 2))) (gC .non))) (sAsg (gBin dAdd (gBin dIx (gVar 4) (gBin dIx (gVar 5) (gC (.int 0)))) (gFn R__law_ways [] (aCons (gVar 2) (aCons (gBin dIx (gVar 5) (gC (.int 1))) (aCons (gBin dSub (gVar 3) (gC (.int 1))) (aNil)))))) (tSub (gVar 4) (gBin dIx (gVar 5) (gC (.int 0))))) (sNext)))
  (sExpr (gMeth mAppend (gVar 2) (aCons (gVar 4) (aNil)))))))
  (sRet (gVar 2)))
def b__law_reach : GTS :=
  sSeq (sAsg (gC (.int 0)) (tName 2))
  (sSeq (sFor (wRange2 (aCons (gC (.int 1)) (aCons (gCall bLen (aCons (gVar 0) (aNil))) (aNil)))) (tName 3)
  (sSeq (sAsg (gBin dAdd (gVar 2) (gCall bSum (aCons (gBin dIx (gVar 0) (gVar 3)) (aNil)))) (tName 2))
  (sIf (bTest (gBin dGt (gVar 2) (gVar 1))) (sRet (gBin dSub (gVar 3) (gC (.int 1)))) (sNext))))
  (sRet (gBin dSub (gCall bLen (aCons (gVar 0) (aNil))) (gC (.int 1)))))
def b__law_fillings (R__law_fillings : Rel) : GTS :=
  sSeq (sIf (bNot (bTruth (gVar 1))) (sSeq (sIf (bTest (gBin (dEq false) (gVar 2) (gC (.int 0)))) (sRet (gLst (aCons (gTup (aCons (gC (.int 0)) (aCons (gTup (aNil)) (aNil)))) (aNil)))) (sNext))
  (sRet (gLst (aNil)))) (sNext))
  (sSeq (sAsg (gLst (aNil)) (tName 3))
  (sSeq (sFor (wRange2 (aCons (gC (.int 1)) (aCons (gBin dAdd (gVar 2) (gC (.int 1))) (aNil)))) (tName 4)
  (sSeq (sAsg (gBin dIx (gBin dIx (gVar 0) (gVar 4)) (gBin dIx (gVar 1) (gC (.int 0)))) (tName 5))
  (sIf (bTruth (gVar 5)) (sFor (wSeq (gFn R__law_fillings [] (aCons (gVar 0) (aCons (gSl (gVar 1) (pSome (gC (.int 1))) (pNone)) (aCons (gBin dSub (gVar 2) (gVar 4)) (aNil)))))) (tName 6)
  (sFor (wSeq (gVar 5)) (tName 7)
  (sExpr (gMeth mAppend (gVar 3) (aCons (gTup (aCons (gBin dAdd (gBin dIx (gVar 7) (gC (.int 0))) (gBin dIx (gVar 6) (gC (.int 0)))) (aCons (gBin dAdd (gBin dIx (gVar 7) (gC (.int 1))) (gBin dIx (gVar 6) (gC (.int 1)))) (aNil)))) (aNil)))))) (sNext))))
  (sRet (gVar 3))))
def b__law_trees (R__law_fillings : Rel) : GTS :=
  sSeq (sAsg (gLst (aCons (gLc (wRange1 (aCons (gBin dIx (gVar 0) (gC (.int 0))) (aNil))) (tName 8) (bYes) (gLst (aNil)) [8]) (aNil))) (tName 2))
  (sSeq (sFor (wRange2 (aCons (gC (.int 1)) (aCons (gBin dAdd (gVar 1) (gC (.int 1))) (aNil)))) (tName 3)
  (sSeq (sAsg (gLc (wRange1 (aCons (gBin dIx (gVar 0) (gC (.int 0))) (aNil))) (tName 8) (bYes) (gLst (aNil)) [8]) (tName 4))
  (sSeq (sFor (wRange1 (aCons (gCall bLen (aCons (gBin dIx (gVar 0) (gC (.int 2))) (aNil))) (aNil))) (tName 5)
  (sSeq (sAsg (gBin dIx (gBin dIx (gVar 0) (gC (.int 2))) (gVar 5)) (tName 6))
  (sIf (bTest (gBin (dIs true) (gBin dIx (gVar 6) (gC (.int 2))) (gC .non))) (sFor (wSeq (gFn R__law_fillings [] (aCons (gVar 2) (aCons (gBin dIx (gVar 6) (gC (.int 1))) (aCons (gBin dSub (gVar 3) (gC (.int 1))) (aNil)))))) (tName 7)
  (sExpr (gMeth mAppend (gBin dIx (gVar 4) (gBin dIx (gVar 6) (gC (.int 0)))) (aCons (gTup (aCons (gBin dAdd (gBin dIx (gVar 6) (gC (.int 2))) (gBin dIx (gVar 7) (gC (.int 0)))) (aCons (gBin dAdd (gTup (aCons (gVar 5) (aNil))) (gBin dIx (gVar 7) (gC (.int 1)))) (aNil)))) (aNil))))) (sNext))))
  (sExpr (gMeth mAppend (gVar 2) (aCons (gVar 4) (aNil)))))))
  (sRet (gVar 2)))
def b__law_same : GTS :=
  sRet (gAnd (gBin (dEq false) (gVar 0) (gVar 1)) (gBin (dEq false) (gCall bRepr (aCons (gVar 0) (aNil))) (gCall bRepr (aCons (gVar 1) (aNil)))))
def b__law_times : GTS :=
  sSeq (sAsg (gLst (aNil)) (tName 2))
  (sSeq (sFor (wSeq (gBin dIx (gVar 0) (gC (.int 2)))) (tName 3)
  (sSeq (sAsg (gBin dIx (gVar 3) (gC (.int 2))) (tName 4))
  (sSeq (sIf (bTest (gBin (dIs true) (gVar 4) (gC .non))) (sAsg (gBin dMul (gVar 4) (gVar 1)) (tName 4)) (sNext))
  (sExpr (gMeth mAppend (gVar 2) (aCons (gTup (aCons (gBin dIx (gVar 3) (gC (.int 0))) (aCons (gBin dIx (gVar 3) (gC (.int 1))) (aCons (gVar 4) (aNil))))) (aNil)))))))
  (sRet (gTup (aCons (gBin dIx (gVar 0) (gC (.int 0))) (aCons (gBin dIx (gVar 0) (gC (.int 1))) (aCons (gCall bTuple (aCons (gVar 2) (aNil))) (aNil)))))))
def b__law_large (R__law_draw : Rel) : GTS :=
  sSeq (sAsg (gBin dAdd (gC (.int 20)) (gFn R__law_draw [] (aCons (gVar 0) (aCons (gC (.int 21)) (aNil))))) (tName 2))
  (sSeq (sAsg (gBin dAdd (gC (.int 1)) (gFn R__law_draw [] (aCons (gVar 0) (aCons (gC (.int 7)) (aNil))))) (tName 3))
  (sSeq (sAsg (gFn R__law_draw [] (aCons (gVar 0) (aCons (gC (.int 2)) (aNil)))) (tName 4))
  (sSeq (sAsg (gBin dAdd (gC (.int 1)) (gFn R__law_draw [] (aCons (gVar 0) (aCons (gC (.int 9)) (aNil))))) (tName 5))
  (sSeq (sAsg (gBin dAdd (gC (.int 1)) (gFn R__law_draw [] (aCons (gVar 0) (aCons (gC (.int 9)) (aNil))))) (tName 6))
  (sSeq (sAsg (gLst (aNil)) (tName 7))
  (sSeq (sFor (wRange1 (aCons (gVar 2) (aNil))) (tName 8)
  (sSeq (sAsg (gBin dSub (gBin dMod (gCall bInt (aCons (gBin dAdd (gBin dMul (gVar 8) (gVar 5)) (gVar 3)) (aNil))) (gC (.int 10))) (gBin dMul (gC (.int 4)) (gVar 1))) (tName 9))
  (sSeq (sAsg (gBin dAdd (gVar 8) (gVar 3)) (tName 10))
  (sSeq (sIf (bTest (gBin (dEq false) (gVar 4) (gC (.int 1)))) (sAsg (gBin dMod (gCall bInt (aCons (gBin dAdd (gVar 8) (gVar 3)) (aNil))) (gVar 2)) (tName 10)) (sNext))
  (sSeq (sIf (bTest (gBin dLt (gVar 10) (gVar 2))) (sExpr (gMeth mAppend (gVar 7) (aCons (gTup (aCons (gVar 8) (aCons (gTup (aCons (gVar 10) (aNil))) (aCons (gVar 9) (aNil))))) (aNil)))) (sNext))
  (sIf (bTest (gBin (dEq false) (gBin dMod (gCall bInt (aCons (gVar 8) (aNil))) (gVar 6)) (gC (.int 0)))) (sExpr (gMeth mAppend (gVar 7) (aCons (gTup (aCons (gVar 8) (aCons (gTup (aNil)) (aCons (gBin dSub (gBin dSub (gC (.int 9)) (gBin dMul (gC (.int 4)) (gVar 1))) (gBin dMod (gCall bInt (aCons (gVar 8) (aNil))) (gC (.int 10)))) (aNil))))) (aNil)))) (sNext)))))))
  (sRet (gTup (aCons (gVar 2) (aCons (gCall bTuple (aCons (gSl (gLst (aCons (gC (.int 0)) (aCons (gBin dDiv (gVar 2) (gC (.int 2))) (aNil)))) (pSome (gFn R__law_draw [] (aCons (gVar 0) (aCons (gC (.int 2)) (aNil))))) (pNone)) (aNil))) (aCons (gCall bTuple (aCons (gVar 7) (aNil))) (aNil))))))))))))
end W
end
section
open PySem PySem.Spec L2 G
local macro_rules | `(tactic| walk_at "g") => `(tactic| first
  | with_reducible refine i_seq ?_ | with_reducible refine i_asg ?_ | with_reducible refine i_bin ?_ | with_reducible refine i_var rfl ?_ | with_reducible refine i_c ?_ | with_reducible refine i_acons ?_ | with_reducible refine i_anil ?_
  | with_reducible refine i_tname ?_ | with_reducible refine i_call ?_ | with_reducible refine i_fn ?_ | with_reducible refine i_if ?_ | with_reducible refine i_test ?_ | with_reducible refine i_next ?_ | with_reducible refine i_expr ?_ | with_reducible refine i_ret ?_
  | with_reducible refine i_retN ?_ | with_reducible refine i_brk ?_ | with_reducible refine i_cnt ?_ | with_reducible refine i_aug rfl ?_ | with_reducible refine i_augS ?_ | with_reducible refine i_ttup rfl ?_ | with_reducible refine i_tcons ?_ | with_reducible refine i_tnil ?_ | with_reducible refine i_tsub ?_
  | with_reducible refine i_un ?_ | with_reducible refine i_tup ?_ | with_reducible refine i_lst ?_ | with_reducible refine i_truth ?_ | with_reducible refine i_bnot ?_ | with_reducible refine i_band ?_ | with_reducible refine i_bor ?_ | with_reducible refine i_gif ?_ | with_reducible refine i_gand ?_ | with_reducible refine i_gor ?_ | with_reducible refine i_gnot ?_
  | with_reducible refine i_sl ?_ | with_reducible refine i_pnone ?_ | with_reducible refine i_psome ?_ | with_reducible refine i_meth ?_ | with_reducible refine i_for ?_ | with_reducible refine i_wrange1 ?_ | with_reducible refine i_wrange2 ?_ | with_reducible refine i_wseq ?_ | with_reducible refine i_wrev ?_ | with_reducible refine i_lc ?_ | with_reducible refine i_byes ?_
  | with_reducible refine i_add ?_ | with_reducible refine i_sub ?_ | with_reducible refine i_neg ?_ | with_reducible refine i_cmp ?_ | with_reducible refine i_eq ?_ | with_reducible refine i_ne ?_ | with_reducible refine i_eqS ?_ | with_reducible refine i_neB ?_ | with_reducible refine i_is ?_ | with_reducible refine i_isnot ?_
  | with_reducible refine i_mulr (by decide) (by decide) ?_ | with_reducible refine i_mull (by decide) (by decide) ?_ | with_reducible refine i_mod (by decide) ?_ | with_reducible refine i_pow (by decide) (by decide) (by decide) ?_
  | with_reducible refine i_int ?_ | with_reducible refine i_intb ?_ | with_reducible refine i_abs ?_ | with_reducible refine i_max ?_ | with_reducible refine i_min2 ?_ | with_reducible refine i_lenT ?_ | with_reducible refine i_lenF ?_ | with_reducible refine i_tupleT ?_ | with_reducible refine i_listF ?_ | with_reducible refine i_listT ?_ | with_reducible refine i_slT ?_
  | with_reducible refine i_onT ?_ | with_reducible refine i_onI ?_ | with_reducible refine i_onK ?_ | with_reducible refine i_onN ?_ | with_reducible refine i_onST ?_ | with_reducible refine i_onSF ?_ | with_reducible refine i_onRT ?_
  | (with_reducible show dIx (.tup _) (.int _) _ _; refine i_ixT rfl ?_) | (with_reducible show dIx (.loc _) (.int _) _ _; refine i_ixL rfl rfl ?_) | (with_reducible show dSet (.loc _) (.int _) _ _ _; refine i_setL rfl rfl ?_) | (with_reducible show bLen [.loc _] _ _; refine i_lenL rfl ?_)
  | with_reducible refine i_t ?_ | with_reducible refine i_f ?_ | with_reducible refine i_kp ?_
  | (with_reducible show (List.length _ ≤ sizeLine ∧ _); refine i_sz rfl ?_)
  | dsimp only)
local macro_rules | `(tactic| walk_at "gi") => `(tactic| first | with_reducible refine i_ite (fun h => ?_) (fun h => ?_) | with_reducible refine i_iten (fun h => ?_) (fun h => ?_) | with_reducible refine i_iteb (fun h => ?_) (fun h => ?_) | with_reducible refine i_itenb (fun h => ?_) (fun h => ?_))

namespace W
/-- the tape: the script's list at 0, the tape at 1 -/
structure Tape where
  ns : List Int
  p : Nat
  r : Int
  q : Int
def Tape.enc (T : Tape) : Sto := [.lst (T.ns.map .int), .lst [.loc 0, .int T.p, .int T.r, .int T.q]]
def spDraw : Rel := fun ds S Q => ∃ (T : Tape) (m : Int) (L : Sto), ds = [.loc 1, .int m] ∧ 0 < m ∧ m < 2 ^ 64 ∧ S = T.enc ++ L ∧ ∀ (k : Int) (T' : Tape), 0 ≤ k → k < m → Q (.int k) (T'.enc ++ L)
theorem atI_ints {ns : List Int} {p : Nat} (h : (p : Int) < (ns.map D.int).length) : ∃ z, atI (ns.map D.int) (p : Int) = some (.int z) := by
  rw [List.length_map] at h
  have hp : p < ns.length := by omega
  refine ⟨ns[p], ?_⟩
  unfold atI ixN
  rw [if_pos (by omega), if_pos (by rw [List.length_map]; omega)]
  show (ns.map D.int)[(p : Int).toNat]? = _
  rw [Int.toNat_natCast, List.getElem?_map, List.getElem?_eq_getElem hp]
  rfl
theorem max1 {m : Int} (h : 0 < m) : (if (1 : Int) > m then 1 else m) = m := if_neg (by omega)
theorem div_ok {a m : Int} (h : 0 < m) (h1 : m < 2 ^ 64) : CDivW a (if (2 : Int) > m then 2 else m) := by
  split
  · exact wide_div (b := 64) (by decide) (by decide) (by decide) (by decide)
  · exact wide_div (b := 64) h (by omega) (by decide) (by decide)
theorem draw_ok {ds : List D} {S : Sto} {Q : D → Sto → Prop} (h : spDraw ds S Q) : b__law_draw (fnE S Q) (ds.map some ++ [none, none]) S := by
  obtain ⟨T, m, L, rfl, h0, h1, rfl, q⟩ := h
  obtain ⟨ns, p, r, q0⟩ := T
  show b__law_draw (fnE (.lst (ns.map .int) :: .lst [.loc 0, .int p, .int r, .int q0] :: L) Q) [some (.loc 1), some (.int m), none, none] (.lst (ns.map .int) :: .lst [.loc 0, .int p, .int r, .int q0] :: L)
  unfold b__law_draw
  -- what an end is
  have fin : ∀ (a : Int) (ns : List Int) (p : Nat) (r q1 : Int), Q (.int (a % m)) (.lst (ns.map .int) :: .lst [.loc 0, .int p, .int r, .int q1] :: L) := fun a ns p r q1 =>
    q (a % m) ⟨ns, p, r, q1⟩ (Int.emod_nonneg _ (by omega)) (Int.emod_lt_of_pos _ h0)
  have hp1 : ∀ p : Nat, (p : Int) + 1 = ((p + 1 : Nat) : Int) := fun p => by omega
  repeat walk_at "g"
  walk_at "gi"
  · repeat walk_at "g"
    walk_at "gi"
    · rename_i hlt
      obtain ⟨z, hz⟩ := atI_ints hlt
      repeat walk_at "g"
      refine i_ixL rfl hz ?_
      repeat walk_at "g"
      walk_at "gi"
      · repeat walk_at "g"
        rw [max1 h0]
        refine i_mod h0 (i_kp ?_)
        rw [hp1]
        exact fin _ _ _ _ _
      · repeat walk_at "g"
        refine i_div (div_ok h0 h1) ?_
        repeat walk_at "g"
        rw [max1 h0]
        refine i_mod h0 (i_kp ?_)
        rw [hp1]
        exact fin _ _ _ _ _
    · repeat walk_at "g"
      walk_at "gi"
      · repeat walk_at "g"
        rw [max1 h0]
        refine i_mod h0 (i_kp ?_)
        rw [hp1]
        exact fin _ _ _ _ _
      · repeat walk_at "g"
        refine i_div (div_ok h0 h1) ?_
        repeat walk_at "g"
        rw [max1 h0]
        refine i_mod h0 (i_kp ?_)
        rw [hp1]
        exact fin _ _ _ _ _
  · repeat walk_at "g"
    refine i_div (div_ok h0 h1) ?_
    repeat walk_at "g"
    rw [max1 h0]
    refine i_mod h0 (i_kp ?_)
    exact fin _ _ _ _ _
end W
namespace W
/-! ### loops -/
theorem each_ind {ok : Sto → Prop} {tg : GG} {body : GTS} {E : GEnds} (P : List D → Sl → Sto → Prop) (hok : ∀ xs γ S, P xs γ S → ok S) (h0 : ∀ γ S, P [] γ S → E.nx γ S)
    (hs : ∀ x xs γ S (R : Sl → Sto → Prop), P (x :: xs) γ S → (∀ γ' S', P xs γ' S' → R γ' S') → tg x γ S fun γ1 S1 => body { nx := R, rt := E.rt, bk := E.nx, ct := R } γ1 S1) : ∀ xs γ S, P xs γ S → each ok tg body E xs γ S
  | [], γ, S, p => ⟨hok _ _ _ p, h0 γ S p⟩
  | x :: xs, γ, S, p => ⟨hok _ _ _ p, hs x xs γ S _ p fun γ' S' p' => each_ind P hok h0 hs xs γ' S' p'⟩
theorem rng_succ (lo : Int) (n : Nat) : rng lo (n + 1) = .int lo :: rng (lo + 1) n := by
  unfold rng
  rw [List.range_succ_eq_map, List.map_cons, List.map_map]
  congr 1
  · exact congrArg D.int (by omega)
  · refine List.map_congr_left fun i _ => ?_
    show D.int (lo + ((i + 1 : Nat) : Int)) = D.int (lo + 1 + (i : Int))
    exact congrArg D.int (by omega)
/-- over range(lo, lo + n) -/
theorem each_rng {tg : GG} {body : GTS} {E : GEnds} (P : Nat → Sl → Sto → Prop) (lo : Int) (n : Nat) (h0 : ∀ γ S, P n γ S → E.nx γ S)
    (hs : ∀ (i : Nat) γ S (R : Sl → Sto → Prop), i < n → P i γ S → (∀ γ' S', P (i + 1) γ' S' → R γ' S') → tg (.int (lo + i)) γ S fun γ1 S1 => body { nx := R, rt := E.rt, bk := E.nx, ct := R } γ1 S1) {γ : Sl} {S : Sto} (p : P 0 γ S) :
    each (fun _ => True) tg body E (rng lo n) γ S := by
  have key : ∀ (m i : Nat) γ S, i + m = n → P i γ S → each (fun _ => True) tg body E (rng (lo + i) m) γ S := by
    intro m
    induction m with
    | zero =>
      intro i γ S e p
      have e' : i = n := by omega
      subst e'
      exact ⟨trivial, h0 γ S p⟩
    | succ m ih =>
      intro i γ S e p
      rw [rng_succ]
      refine ⟨trivial, hs i γ S _ (by omega) p fun γ' S' p' => ?_⟩
      have e2 : lo + (i : Int) + 1 = lo + ((i + 1 : Nat) : Int) := by omega
      rw [e2]
      exact ih (i + 1) γ' S' (by omega) p'
  have z := key n 0 γ S (by omega) p
  rw [show lo + ((0 : Nat) : Int) = lo by omega] at z
  exact z
/-- a comprehension over range(lo, lo + n) -/
theorem comp_rng {tg : GG} {tt : GT Bool} {te : GT D} {l : Nat} {γ0 : Sl} {Q : D → Sto → Prop} (P : Nat → Sto → Prop) (lo : Int) (n : Nat) (h0 : ∀ S, P n S → Q (.loc l) S)
    (hs : ∀ (i : Nat) S (R : Sto → Prop), i < n → P i S → (∀ S', P (i + 1) S' → R S') → tg (.int (lo + i)) γ0 S fun γ2 S2 => tt γ2 S2 fun k S3 => if k = true then te γ2 S3 fun y S4 => match S4[l]? with
      | some (.lst acc) => acc.length < sizeLine ∧ R (S4.set l (.lst (acc ++ [y])))
      | _ => False
    else R S3) {S : Sto} (p : P 0 S) : comp (fun _ => True) tg tt te l γ0 Q (rng lo n) S := by
  have key : ∀ (m i : Nat) S, i + m = n → P i S → comp (fun _ => True) tg tt te l γ0 Q (rng (lo + i) m) S := by
    intro m
    induction m with
    | zero =>
      intro i S e p
      have e' : i = n := by omega
      subst e'
      exact ⟨trivial, h0 S p⟩
    | succ m ih =>
      intro i S e p
      rw [rng_succ]
      refine ⟨trivial, hs i S _ (by omega) p fun S' p' => ?_⟩
      have e2 : lo + (i : Int) + 1 = lo + ((i + 1 : Nat) : Int) := by omega
      rw [e2]
      exact ih (i + 1) S' (by omega) p'
  have z := key n 0 S (by omega) p
  rw [show lo + ((0 : Nat) : Int) = lo by omega] at z
  exact z
/-! ### closed stores -/
theorem cl_mono_all (n m : Nat) (h : n ≤ m) : (∀ d : D, Cl n d = true → Cl m d = true) ∧ ∀ ds : List D, G.Cls n ds = true → G.Cls m ds = true := by
  have key : ∀ k : Nat, (∀ d : D, sizeOf d ≤ k → Cl n d = true → Cl m d = true) ∧ ∀ ds : List D, sizeOf ds ≤ k → G.Cls n ds = true → G.Cls m ds = true := by
    intro k
    induction k with
    | zero =>
      refine ⟨fun d hd => ?_, fun ds hd => ?_⟩
      · cases d <;> simp at hd
      · cases ds <;> simp at hd
    | succ k ih =>
      refine ⟨fun d hd c => ?_, fun ds hd c => ?_⟩
      · cases d with
        | tup xs => unfold Cl at c ⊢; exact ih.2 xs (by simp at hd; omega) c
        | frl xs => unfold Cl at c ⊢; exact ih.2 xs (by simp at hd; omega) c
        | loc l => unfold Cl at c ⊢; exact decide_eq_true (Nat.lt_of_lt_of_le (of_decide_eq_true c) h)
        | _ => unfold Cl; rfl
      · cases ds with
        | nil => rfl
        | cons d ds =>
          unfold G.Cls at c ⊢
          rw [Bool.and_eq_true] at c ⊢
          simp at hd
          exact ⟨ih.1 d (by omega) c.1, ih.2 ds (by omega) c.2⟩
  exact ⟨fun d => (key (sizeOf d)).1 d (Nat.le_refl _), fun ds => (key (sizeOf ds)).2 ds (Nat.le_refl _)⟩
theorem Cls_of {n : Nat} : ∀ {ds : List D}, (∀ d ∈ ds, Cl n d = true) → G.Cls n ds = true
  | [], _ => rfl
  | d :: ds, h => by
    unfold G.Cls
    rw [h d List.mem_cons_self, Cls_of fun e he => h e (List.mem_cons_of_mem _ he)]
    rfl
theorem Cls_ints {n : Nat} (ns : List Int) : G.Cls n (ns.map D.int) = true := Cls_of fun d hd => by
  obtain ⟨z, _, rfl⟩ := List.mem_map.mp hd
  rfl
theorem cls_tape {T T' : Tape} {L : Sto} (h : ClS (T.enc ++ L)) : ClS (T'.enc ++ L) := fun o ho => by
  have hl : (T'.enc ++ L).length = L.length + 2 := by simp [Tape.enc]
  rw [hl]
  rcases List.mem_append.mp ho with ho | ho
  · rcases List.mem_cons.mp ho with rfl | ho
    · exact Cls_ints _
    · rw [List.mem_singleton.mp ho]
      show G.Cls (L.length + 2) [.loc 0, .int T'.p, .int T'.r, .int T'.q] = true
      unfold G.Cls
      rw [Bool.and_eq_true]
      exact ⟨by unfold Cl; exact decide_eq_true (by omega), rfl⟩
  · have z := h o (List.mem_append_right _ ho)
    have hl2 : (T.enc ++ L).length = L.length + 2 := by simp [Tape.enc]
    rw [hl2] at z
    exact z
theorem tape_len {T : Tape} {L : Sto} : (T.enc ++ L).length = L.length + 2 := by simp [Tape.enc]
/-- a def's end with things that nobody names any more -/
theorem kp_drop {T T' : Tape} {L g : Sto} {Q : D → Sto → Prop} {d : D} (c : ClS (T.enc ++ L)) (hd : Cl (L.length + 2) d = true) (q : Q d (T'.enc ++ L)) : Kp (T.enc ++ L) Q d (T'.enc ++ (L ++ g)) :=
  ⟨T'.enc ++ L, .inr ⟨⟨g, by rw [List.append_assoc]⟩, by rw [tape_len, tape_len]; exact Nat.le_refl _, cls_tape c, by rw [tape_len]; exact hd⟩, q⟩
/-! ### the tape -/
def spTape : Rel := fun ds S Q => ∃ ns : List Int, ds = [scr ns] ∧ S = [] ∧ ∀ q : Int, Q (.loc 1) (Tape.enc ⟨ns, 0, 0, q⟩)
theorem tape_ok {ds : List D} {S : Sto} {Q : D → Sto → Prop} (h : spTape ds S Q) : b__law_tape (fnE S Q) (ds.map some ++ [none, none]) S := by
  obtain ⟨ns, rfl, rfl, q⟩ := h
  show b__law_tape (fnE [] Q) [some (.frl (ns.map D.int)), none, none] []
  unfold b__law_tape
  repeat walk_at "g"
  refine each_ind (fun xs γ S => ∃ (ms : List Int) (t : Int) (c : Option D), xs = ms.map D.int ∧ γ = [some (.frl (ns.map D.int)), some (.int t), c] ∧ S = []) (fun _ _ _ _ => trivial) ?_ ?_ _ _ _ ⟨ns, 7, none, rfl, rfl, rfl⟩
  · rintro γ S ⟨ms, t, c, _, rfl, rfl⟩
    repeat walk_at "g"
    exact i_fin (q t)
  · rintro x xs γ S R ⟨ms, t, c, e, rfl, rfl⟩ k
    cases ms with
    | nil => cases e
    | cons m ms =>
      cases e
      repeat walk_at "g"
      exact k _ _ ⟨ms, _, _, rfl, rfl, rfl⟩
theorem use_draw {T : Tape} {m : Int} {L : Sto} {Q : D → Sto → Prop} (h0 : 0 < m) (h1 : m < 2 ^ 64) (q : ∀ (k : Int) (T' : Tape), 0 ≤ k → k < m → Q (.int k) (T'.enc ++ L)) : spDraw [.loc 1, .int m] (T.enc ++ L) Q := ⟨T, m, L, rfl, h0, h1, rfl, q⟩
/-! ### a price -/
@[reducible] def oi : Option Int → D
  | none => .non
  | some i => .int i
def PrOk (low : Int) (p : Option Int) : Prop := ∀ i, p = some i → i.natAbs ≤ 1000000000 ∧ (low ≠ 1 → 0 ≤ i)
def spPrice : Rel := fun ds S Q => ∃ (T : Tape) (mode low : Int) (L : Sto), ds = [.loc 1, .int mode, .int low] ∧ 0 ≤ mode ∧ mode < 4 ∧ S = T.enc ++ L ∧ ∀ (p : Option Int) (T' : Tape), PrOk low p → Q (oi p) (T'.enc ++ L)
theorem menu4 {mode : Int} (h0 : 0 ≤ mode) (h1 : mode < 4) : ∃ m : Int, atI [D.int 1, .int 2, .int 10, .int (10 ^ Int.toNat 9 + 1)] mode = some (.int m) ∧ 0 < m ∧ m ≤ 1000000001 := by
  have h : mode = 0 ∨ mode = 1 ∨ mode = 2 ∨ mode = 3 := by omega
  rcases h with rfl | rfl | rfl | rfl
  · exact ⟨1, rfl, by decide, by decide⟩
  · exact ⟨2, rfl, by decide, by decide⟩
  · exact ⟨10, rfl, by decide, by decide⟩
  · exact ⟨1000000001, rfl, by decide, by decide⟩
theorem price_ok {ds : List D} {S : Sto} {Q : D → Sto → Prop} (h : spPrice ds S Q) (c : ClS S) : b__law_price spDraw (fnE S Q) (ds.map some ++ [none]) S := by
  obtain ⟨T, mode, low, L, rfl, h0, h1, rfl, q⟩ := h
  show b__law_price spDraw (fnE (T.enc ++ L) Q) [some (.loc 1), some (.int mode), some (.int low), none] (T.enc ++ L)
  unfold b__law_price
  repeat walk_at "g"
  refine use_draw (by decide) (by decide) fun k T1 _ _ => ?_
  repeat walk_at "g"
  walk_at "gi"
  · repeat walk_at "g"
    exact i_fin (q none T1 fun i e => nomatch e)
  · repeat walk_at "g"
    obtain ⟨m, e, m0, m1⟩ := menu4 h0 h1
    refine i_ixL (List.getElem?_concat_length) e ?_
    repeat walk_at "g"
    rw [List.append_assoc]
    refine use_draw m0 (by omega) fun k2 T2 k0 k1 => ?_
    repeat walk_at "g"
    have fin : ∀ (T' : Tape) (z : Int), z.natAbs ≤ 1000000000 → (low ≠ 1 → 0 ≤ z) → Kp (T.enc ++ L) Q (.int z) (T'.enc ++ (L ++ [.lst [.int 1, .int 2, .int 10, .int (10 ^ Int.toNat 9 + 1)]])) := fun T' z z1 z2 =>
      kp_drop c rfl (q (some z) T' fun i e => by cases e; exact ⟨z1, z2⟩)
    walk_at "gi"
    · repeat walk_at "g"
      refine use_draw (by decide) (by decide) fun k3 T3 _ _ => ?_
      repeat walk_at "g"
      walk_at "gi"
      · repeat walk_at "g"
        exact fin _ _ (by omega) (fun z => absurd ‹low = 1› z)
      · repeat walk_at "g"
        exact fin _ _ (by omega) (fun _ => k0)
    · repeat walk_at "g"
      exact fin _ _ (by omega) (fun _ => k0)
end W
namespace W
/-! ### families -/
abbrev eN (n : Nat) : D := .int n
structure Vt where
  plug : Nat
  slots : List Nat
  price : Option Int
abbrev Vt.enc (v : Vt) : D := .tup [eN v.plug, .tup (v.slots.map eN), oi v.price]
structure Fam where
  count : Nat
  roots : List Nat
  vars : List Vt
abbrev Fam.enc (f : Fam) : D := .tup [eN f.count, .tup (f.roots.map eN), .tup (f.vars.map Vt.enc)]
theorem Cls_eN {n : Nat} (ns : List Nat) : G.Cls n (ns.map eN) = true := Cls_of fun d hd => by
  obtain ⟨z, _, rfl⟩ := List.mem_map.mp hd
  rfl
theorem oi_cl {n : Nat} (p : Option Int) : G.Cl n (oi p) = true := by cases p <;> rfl
theorem Vt.cl {n : Nat} (v : Vt) : G.Cl n v.enc = true := by
  unfold Vt.enc G.Cl
  refine Cls_of fun d hd => ?_
  rcases List.mem_cons.mp hd with rfl | hd
  · rfl
  · rcases List.mem_cons.mp hd with rfl | hd
    · unfold G.Cl
      exact Cls_eN _
    · rw [List.mem_singleton.mp hd]
      exact oi_cl _
theorem Fam.cl {n : Nat} (f : Fam) : G.Cl n f.enc = true := by
  unfold Fam.enc G.Cl
  refine Cls_of fun d hd => ?_
  rcases List.mem_cons.mp hd with rfl | hd
  · rfl
  · rcases List.mem_cons.mp hd with rfl | hd
    · unfold G.Cl
      exact Cls_eN _
    · rw [List.mem_singleton.mp hd]
      unfold G.Cl
      refine Cls_of fun d hd => ?_
      obtain ⟨z, _, rfl⟩ := List.mem_map.mp hd
      exact z.cl
structure VtOk (count : Nat) (low : Int) (v : Vt) : Prop where
  plug : v.plug < count
  slots : ∀ s ∈ v.slots, s < count
  few : v.slots.length ≤ 3
  price : PrOk low v.price
structure FamOk (st va : Nat) (low : Int) (f : Fam) : Prop where
  one : 1 ≤ f.count
  most : f.count ≤ st
  vars : ∀ v ∈ f.vars, VtOk f.count low v
  few : f.vars.length ≤ va + st
  roots : ∀ r ∈ f.roots, r < f.count
  asc : f.roots.Pairwise (· < ·)
def spFamily : Rel := fun ds S Q => ∃ (T : Tape) (st va : Nat) (low : Int) (L : Sto), ds = [.loc 1, eN st, eN va, .int low] ∧ 1 ≤ st ∧ st ≤ 1000 ∧ va ≤ 1000 ∧ S = T.enc ++ L ∧ ∀ (f : Fam) (T' : Tape), FamOk st va low f → Q f.enc (T'.enc ++ L)
theorem nat_of {k : Int} (h : 0 ≤ k) : ∃ n : Nat, k = n := ⟨k.toNat, by omega⟩
theorem look {T : Tape} {M g : Sto} {x : SO} : (T.enc ++ (M ++ x :: g))[M.length + 2]? = some x := by simp [Tape.enc]
theorem look_set {T : Tape} {M g : Sto} {x y : SO} : (T.enc ++ (M ++ x :: g)).set (M.length + 2) y = T.enc ++ (M ++ y :: g) := by simp [Tape.enc]
theorem look1 {T : Tape} {M g : Sto} {x : SO} {n : Nat} (h : n = M.length + 2) : (T.enc ++ (M ++ x :: g))[n]? = some x := by
  subst h
  exact look
theorem look2 {T : Tape} {M g : Sto} {x y : SO} {n : Nat} (h : n = M.length + 3) : (T.enc ++ (M ++ x :: y :: g))[n]? = some y := by
  subst h
  simp [Tape.enc]
theorem set1 {T : Tape} {M g : Sto} {x y : SO} {n : Nat} (h : n = M.length + 2) : (T.enc ++ (M ++ x :: g)).set n y = T.enc ++ (M ++ y :: g) := by
  subst h
  exact look_set
theorem set2 {T : Tape} {M g : Sto} {x y z : SO} {n : Nat} (h : n = M.length + 3) : (T.enc ++ (M ++ x :: y :: g)).set n z = T.enc ++ (M ++ x :: z :: g) := by
  subst h
  simp [Tape.enc]
theorem tape_len1 {T : Tape} {M : Sto} {x : SO} : (T.enc ++ (M ++ [x])).length = M.length + 3 := by simp [Tape.enc]
theorem truL {S : Sto} {l : Nat} {xs : List D} (e : S[l]? = some (.lst xs)) : truD (.loc l) S = some (!xs.isEmpty) := by
  show (match S[l]? with
    | some (.lst ds) => some (!ds.isEmpty)
    | some (.dic kvs) => some (!kvs.isEmpty)
    | _ => none) = _
  rw [e]
theorem at_map {α : Type} {f : α → D} {xs : List α} {k : Int} (h0 : 0 ≤ k) (h1 : k < xs.length) : ∃ x, x ∈ xs ∧ atI (xs.map f) k = some (f x) := by
  obtain ⟨n, rfl⟩ := nat_of h0
  have hn : n < xs.length := by omega
  refine ⟨xs[n], List.getElem_mem _, ?_⟩
  unfold atI ixN
  rw [if_pos (by omega), if_pos (by rw [List.length_map]; omega)]
  show (xs.map f)[(n : Int).toNat]? = _
  rw [Int.toNat_natCast, List.getElem?_map, List.getElem?_eq_getElem hn]
  rfl
theorem menu6 {k : Int} (h0 : 0 ≤ k) (h1 : k < 6) : ∃ m : Nat, atI [D.int 0, .int 1, .int 1, .int 2, .int 2, .int 3] k = some (eN m) ∧ m ≤ 3 := by
  have h : k = 0 ∨ k = 1 ∨ k = 2 ∨ k = 3 ∨ k = 4 ∨ k = 5 := by omega
  rcases h with rfl | rfl | rfl | rfl | rfl | rfl
  · exact ⟨0, rfl, by decide⟩
  · exact ⟨1, rfl, by decide⟩
  · exact ⟨1, rfl, by decide⟩
  · exact ⟨2, rfl, by decide⟩
  · exact ⟨2, rfl, by decide⟩
  · exact ⟨3, rfl, by decide⟩
theorem use_price {T : Tape} {mode low : Int} {L : Sto} {Q : D → Sto → Prop} (h0 : 0 ≤ mode) (h1 : mode < 4) (q : ∀ (p : Option Int) (T' : Tape), PrOk low p → Q (oi p) (T'.enc ++ L)) : spPrice [.loc 1, .int mode, .int low] (T.enc ++ L) Q := ⟨T, mode, low, L, rfl, h0, h1, rfl, q⟩
theorem map_snoc {α β : Type} (f : α → β) (xs : List α) (x : α) : xs.map f ++ [f x] = (xs ++ [x]).map f := by simp
theorem family_ok {ds : List D} {S : Sto} {Q : D → Sto → Prop} (h : spFamily ds S Q) (c : ClS S) : b__law_family spDraw spPrice (fnE S Q) (ds.map some ++ List.replicate 12 none) S := by
  obtain ⟨T, st, va, low, L, rfl, h1, h2, h3, rfl, q⟩ := h
  show b__law_family spDraw spPrice (fnE (T.enc ++ L) Q) [some (.loc 1), some (.int st), some (.int va), some (.int low), none, none, none, none, none, none, none, none, none, none, none, none] (T.enc ++ L)
  unfold b__law_family
  repeat walk_at "g"
  refine use_draw (by omega) (by omega) fun k T1 hk0 hk1 => ?_
  repeat walk_at "g"
  refine use_draw (by decide) (by decide) fun shape T2 _ _ => ?_
  repeat walk_at "g"
  refine use_draw (by decide) (by decide) fun mode T3 hm0 hm1 => ?_
  obtain ⟨n, rfl⟩ := nat_of hk0
  rw [show (1 : Int) + (n : Int) = ((n + 1 : Nat) : Int) by omega]
  have hn : n + 1 ≤ st := by omega
  generalize hcn : n + 1 = count at hn
  have hc1 : 1 ≤ count := by omega
  repeat walk_at "g"
  rw [tape_len, List.append_assoc]
  refine use_draw (by omega) (by omega) fun kv T4 hv0 hv1 => ?_
  repeat walk_at "g"
  refine ⟨⟨by omega, by omega⟩, ?_⟩
  -- the rows
  refine each_rng (fun i γ S => ∃ (T : Tape) (rows : List Vt) (g : Sto) (a8 a10 a11 a12 a13 a15 : Option D), γ = [some (.loc 1), some (.int st), some (.int va), some (.int low), some (.int count), some (.int shape), some (.int mode), some (.loc (L.length + 2)), a8, none, a10, a11, a12, a13, none, a15] ∧
    S = T.enc ++ (L ++ .lst (rows.map Vt.enc) :: g) ∧ (∀ v ∈ rows, VtOk count low v) ∧ rows.length ≤ i) 0 kv.toNat ?_ ?_ ⟨T4, [], [], none, none, none, none, none, none, rfl, rfl, fun _ h => absurd h List.not_mem_nil, Nat.le_refl _⟩
  · -- behind the rows
    rintro γ S ⟨T5, rows, g, a8, a10, a11, a12, a13, a15, rfl, rfl, hr, hl⟩
    have tail : ∀ (T5 : Tape) (rows : List Vt) (g : Sto) (a14 : Option D), (∀ v ∈ rows, VtOk count low v) → rows.length ≤ va + count →
        sSeq (sAsg (gLc (wRange1 (aCons (gVar 4) (aNil))) (tName 14) (bTest (gBin dGt (gFn spDraw [] (aCons (gVar 0) (aCons (gC (.int 3)) (aNil)))) (gC (.int 0)))) (gVar 14) [14]) (tName 9))
          (sSeq (sIf (bAnd (bNot (bTruth (gVar 9))) (bTest (gBin dGt (gFn spDraw [] (aCons (gVar 0) (aCons (gC (.int 8)) (aNil)))) (gC (.int 0))))) (sAsg (gLst (aCons (gFn spDraw [] (aCons (gVar 0) (aCons (gVar 4) (aNil)))) (aNil))) (tName 9)) (sNext))
          (sRet (gTup (aCons (gVar 4) (aCons (gCall bTuple (aCons (gVar 9) (aNil))) (aCons (gCall bTuple (aCons (gVar 7) (aNil))) (aNil)))))))
          (fnE (T.enc ++ L) Q) [some (.loc 1), some (.int st), some (.int va), some (.int low), some (.int count), some (.int shape), some (.int mode), some (.loc (L.length + 2)), a8, none, a10, a11, a12, a13, a14, a15] (T5.enc ++ (L ++ .lst (rows.map Vt.enc) :: g)) := by
      intro T5 rows g a14 hr hl
      -- the end
      have fin : ∀ (T' : Tape) (roots : List Nat) (g : Sto), (∀ r ∈ roots, r < count) → roots.Pairwise (· < ·) → (fnE (T.enc ++ L) Q).rt (.tup [.int count, .tup (roots.map eN), .tup (rows.map Vt.enc)]) (T'.enc ++ (L ++ g)) := fun T' roots g h1 h2 =>
        kp_drop c (by
          show G.Cl (L.length + 2) (Fam.enc ⟨count, roots, rows⟩) = true
          exact Fam.cl _) (q ⟨count, roots, rows⟩ T' ⟨hc1, hn, hr, Nat.le_trans hl (by omega), h1, h2⟩)
      generalize hM : L ++ SO.lst (rows.map Vt.enc) :: g = M
      repeat walk_at "g"
      refine ⟨⟨by omega, by omega⟩, ?_⟩
      rw [tape_len, List.append_assoc]
      refine comp_rng (fun i S => ∃ (T : Tape) (rs : List Nat), S = T.enc ++ (M ++ [.lst (rs.map eN)]) ∧ (∀ r ∈ rs, r < i) ∧ rs.Pairwise (· < ·) ∧ rs.length ≤ i) 0 count ?_ ?_ ⟨T5, [], rfl, fun _ h => absurd h List.not_mem_nil, .nil, Nat.le_refl _⟩
      · rintro S ⟨T6, rs, rfl, h4, h5, h6⟩
        repeat walk_at "g"
        refine i_onL look ?_
        repeat walk_at "g"
        walk_at "gi"
        · repeat walk_at "g"
          refine use_draw (by decide) (by decide) fun k8 T7 _ _ => ?_
          repeat walk_at "g"
          walk_at "gi"
          · repeat walk_at "g"
            refine use_draw (by omega) (by omega) fun kr T8 h7 h8 => ?_
            obtain ⟨r, rfl⟩ := nat_of h7
            repeat walk_at "g"
            rw [tape_len, List.append_assoc T8.enc, List.append_assoc M]
            refine i_tupleL (look2 (by rw [List.length_append]; rfl)) ?_
            repeat walk_at "g"
            subst hM
            rw [List.append_assoc L]
            refine i_tupleL look ?_
            repeat walk_at "g"
            exact fin T8 [r] _ (fun x hx => by rw [List.mem_singleton.mp hx]; omega) (List.pairwise_singleton _ _)
          · repeat walk_at "g"
            refine i_tupleL look ?_
            repeat walk_at "g"
            subst hM
            rw [List.append_assoc L]
            refine i_tupleL look ?_
            repeat walk_at "g"
            exact fin T7 rs _ h4 h5
        · repeat walk_at "g"
          refine i_tupleL look ?_
          repeat walk_at "g"
          subst hM
          rw [List.append_assoc L]
          refine i_tupleL look ?_
          repeat walk_at "g"
          exact fin T6 rs _ h4 h5
      · rintro i S R hi ⟨T6, rs, rfl, h4, h5, h6⟩ kk
        repeat walk_at "g"
        refine use_draw (by decide) (by decide) fun k3 T7 _ _ => ?_
        repeat walk_at "g"
        walk_at "gi"
        · repeat walk_at "g"
          refine i_comp look (small_lt (by rw [List.length_map]; omega)) ?_
          rw [look_set]
          refine kk _ ⟨T7, rs ++ [i], by rw [← map_snoc, show (0 : Int) + (i : Int) = i by omega], fun x hx => ?_, ?_, by rw [List.length_append]; exact Nat.succ_le_succ h6⟩
          · rcases List.mem_append.mp hx with hx | hx
            · exact Nat.lt_succ_of_lt (h4 x hx)
            · rw [List.mem_singleton.mp hx]
              exact Nat.lt_succ_self i
          · refine List.pairwise_append.mpr ⟨h5, List.pairwise_singleton _ _, fun x hx y hy => ?_⟩
            rw [List.mem_singleton.mp hy]
            exact h4 x hx
        · exact kk _ ⟨T7, rs, rfl, fun x hx => Nat.lt_succ_of_lt (h4 x hx), h5, Nat.le_succ_of_le h6⟩
    repeat walk_at "g"
    refine use_draw (by decide) (by decide) fun k2 T6 _ _ => ?_
    repeat walk_at "g"
    walk_at "gi"
    · repeat walk_at "g"
      refine ⟨⟨by omega, by omega⟩, ?_⟩
      refine each_rng (fun i γ S => ∃ (T : Tape) (rows : List Vt) (a14 : Option D), γ = [some (.loc 1), some (.int st), some (.int va), some (.int low), some (.int count), some (.int shape), some (.int mode), some (.loc (L.length + 2)), a8, none, a10, a11, a12, a13, a14, a15] ∧
        S = T.enc ++ (L ++ .lst (rows.map Vt.enc) :: g) ∧ (∀ v ∈ rows, VtOk count low v) ∧ rows.length ≤ va + i) 0 count ?_ ?_ ⟨T6, rows, none, rfl, rfl, hr, by omega⟩
      · rintro γ S ⟨T7, rows7, a14, rfl, rfl, hr7, hl7⟩
        exact tail T7 rows7 g a14 hr7 hl7
      · rintro i γ S R hi ⟨T7, rows7, a14, rfl, rfl, hr7, hl7⟩ kk
        repeat walk_at "g"
        refine i_isl look ?_
        repeat walk_at "g"
        refine i_lenL look ?_
        repeat walk_at "g"
        refine use_draw (by rw [List.length_map]; omega) (by rw [List.length_map]; omega) fun k9 T8 h90 h91 => ?_
        rw [List.length_map] at h91
        obtain ⟨p9, rfl⟩ := nat_of h90
        repeat walk_at "g"
        refine use_price (by omega) (by omega) fun p T9 hp => ?_
        repeat walk_at "g"
        refine i_insert look ⟨small_lt (by rw [List.length_map]; omega), by omega, by omega⟩ ?_
        rw [look_set]
        repeat walk_at "g"
        refine kk _ _ ⟨T9, rows7.take p9 ++ [⟨i, [], p⟩] ++ rows7.drop p9, _, rfl, ?_, fun v hv => ?_, ?_⟩
        · rw [List.map_append, List.map_append, List.map_take, List.map_drop, show (0 : Int) + (i : Int) = i by omega]
          rfl
        · rcases List.mem_append.mp hv with hv | hv
          · rcases List.mem_append.mp hv with hv | hv
            · exact hr7 v (List.mem_of_mem_take hv)
            · rw [List.mem_singleton.mp hv]
              exact ⟨hi, fun _ h => absurd h List.not_mem_nil, Nat.zero_le _, hp⟩
          · exact hr7 v (List.mem_of_mem_drop hv)
        · simp only [List.length_append, List.length_take, List.length_drop, List.length_singleton]
          omega
    · repeat walk_at "g"
      exact tail T6 rows g _ hr (by omega)
  · -- a row
    rintro i γ S R hi ⟨T5, rows, g, a8, a10, a11, a12, a13, a15, rfl, rfl, hr, hl⟩ kk
    generalize hM : L ++ SO.lst (rows.map Vt.enc) :: g = M
    repeat walk_at "g"
    refine use_draw (by omega) (by omega) fun kp T6 hp0 hp1 => ?_
    obtain ⟨plug, rfl⟩ := nat_of hp0
    repeat walk_at "g"
    rw [tape_len, List.append_assoc T6.enc, List.append_assoc T6.enc, List.append_assoc M]
    refine use_draw (by decide) (by decide) fun ks T7 hs0 hs1 => ?_
    obtain ⟨ms, e6, hms⟩ := menu6 hs0 hs1
    repeat walk_at "g"
    refine i_ixL (look2 tape_len1) e6 ?_
    repeat walk_at "g"
    refine ⟨⟨by omega, by omega⟩, ?_⟩
    -- the slots
    refine each_rng (fun j γ S => ∃ (T : Tape) (sl : List Nat) (g : Sto) (a12 a15 : Option D), γ = [some (.loc 1), some (.int st), some (.int va), some (.int low), some (.int count), some (.int shape), some (.int mode), some (.loc (L.length + 2)), some (.int (0 + (i : Int))), none, some (.int plug), some (.loc (M.length + 2)), a12, a13, none, a15] ∧
      S = T.enc ++ (M ++ .lst (sl.map eN) :: g) ∧ (∀ s ∈ sl, s < count) ∧ sl.length ≤ j) 0 ms ?_ ?_ ⟨T7, [], _, a12, a15, rfl, rfl, fun _ h => absurd h List.not_mem_nil, Nat.le_refl _⟩
    · rintro γ S ⟨T8, sl, g8, b12, b15, rfl, rfl, hsl, hll⟩
      repeat walk_at "g"
      refine i_tupleL (look1 rfl) ?_
      repeat walk_at "g"
      refine use_price (by omega) (by omega) fun p T9 hp => ?_
      repeat walk_at "g"
      have hrow : VtOk count low ⟨plug, sl, p⟩ := ⟨show plug < count by omega, hsl, show sl.length ≤ 3 by omega, hp⟩
      subst hM
      -- the row is put behind the rows
      have fin : ∀ (T : Tape) (v : Vt) (x : Option D), VtOk count low v → R [some (.loc 1), some (.int st), some (.int va), some (.int low), some (.int count), some (.int shape), some (.int mode), some (.loc (L.length + 2)), some (.int (0 + (i : Int))), none, some (.int plug), some (.loc ((L ++ SO.lst (rows.map Vt.enc) :: g).length + 2)), b12, x, none, b15]
          (T.enc ++ (L ++ .lst (rows.map Vt.enc ++ [v.enc]) :: (g ++ .lst (sl.map eN) :: g8))) := fun T v x hv => by
        refine kk _ _ ⟨T, rows ++ [v], _, _, _, _, _, _, _, rfl, by rw [map_snoc], fun y hy => ?_, by rw [List.length_append]; exact Nat.succ_le_succ hl⟩
        rcases List.mem_append.mp hy with hy | hy
        · exact hr y hy
        · rw [List.mem_singleton.mp hy]
          exact hv
      have sm : (rows.map Vt.enc).length < sizeLine := small_lt (by rw [List.length_map]; omega)
      rw [List.append_assoc L, List.cons_append]
      refine i_onL look ?_
      repeat walk_at "g"
      walk_at "gi"
      · rename_i he
        repeat walk_at "g"
        refine use_draw (by decide) (by decide) fun k8 T10 _ _ => ?_
        repeat walk_at "g"
        walk_at "gi"
        · repeat walk_at "g"
          refine i_lenL look ?_
          repeat walk_at "g"
          have hpos : 0 < rows.length := by
            cases rows with
            | nil => cases he
            | cons _ _ => exact Nat.succ_pos _
          refine use_draw (by rw [List.length_map]; omega) (by rw [List.length_map]; omega) fun k9 T11 h90 h91 => ?_
          rw [List.length_map] at h91
          obtain ⟨v, hv, e9⟩ := at_map (f := Vt.enc) h90 h91
          refine i_ixL look e9 ?_
          repeat walk_at "g"
          refine i_isl look ?_
          repeat walk_at "g"
          refine i_append look sm ?_
          rw [look_set]
          repeat walk_at "g"
          exact fin _ v _ (hr v hv)
        · repeat walk_at "g"
          refine i_isl look ?_
          repeat walk_at "g"
          refine i_append look sm ?_
          rw [look_set]
          repeat walk_at "g"
          exact fin _ ⟨plug, sl, p⟩ _ hrow
      · repeat walk_at "g"
        refine i_isl look ?_
        repeat walk_at "g"
        refine i_append look sm ?_
        rw [look_set]
        repeat walk_at "g"
        exact fin _ ⟨plug, sl, p⟩ _ hrow
    · rintro j γ S R2 hj ⟨T8, sl, g8, b12, b15, rfl, rfl, hsl, hll⟩ k2
      repeat walk_at "g"
      refine use_draw (by omega) (by omega) fun kg T9 hg0 hg1 => ?_
      repeat walk_at "g"
      have fin : ∀ (z : Int) (x : Option D) , (0 ≤ z → z < count → R2 [some (.loc 1), some (.int st), some (.int va), some (.int low), some (.int count), some (.int shape), some (.int mode), some (.loc (L.length + 2)), some (.int (0 + (i : Int))), none, some (.int plug), some (.loc (M.length + 2)), some (.int (0 + (j : Int))), a13, none, x] (T9.enc ++ (M ++ .lst (sl.map eN ++ [.int z]) :: g8))) := fun z x h0 h1 => by
        obtain ⟨s, rfl⟩ := nat_of h0
        refine k2 _ _ ⟨T9, sl ++ [s], g8, _, _, rfl, by rw [← map_snoc], fun y hy => ?_, by rw [List.length_append]; exact Nat.succ_le_succ hll⟩
        rcases List.mem_append.mp hy with hy | hy
        · exact hsl y hy
        · rw [List.mem_singleton.mp hy]
          omega
      have fin0 : ∀ (x : Option D), R2 [some (.loc 1), some (.int st), some (.int va), some (.int low), some (.int count), some (.int shape), some (.int mode), some (.loc (L.length + 2)), some (.int (0 + (i : Int))), none, some (.int plug), some (.loc (M.length + 2)), some (.int (0 + (j : Int))), a13, none, x] (T9.enc ++ (M ++ .lst (sl.map eN) :: g8)) := fun x =>
        k2 _ _ ⟨T9, sl, g8, _, _, rfl, rfl, hsl, Nat.le_succ_of_le hll⟩
      have sm : (sl.map eN).length < sizeLine := small_lt (by rw [List.length_map]; omega)
      walk_at "gi" <;> (repeat walk_at "g") <;> walk_at "gi" <;> (repeat walk_at "g") <;> walk_at "gi" <;> (repeat walk_at "g") <;> first | (walk_at "gi" <;> (repeat walk_at "g")) | skip
      all_goals first
        | exact fin0 _
        | (refine i_isl (look1 rfl) ?_
           repeat walk_at "g"
           refine i_append (look1 rfl) sm ?_
           rw [set1 rfl]
           exact fin _ _ (by assumption) (by assumption))
end W
namespace W
/-! ### the mathematics of trees by size (no program here) -/
abbrev Tr := Int × List Nat
/-- all fillings of slots with so many parts, by a table of trees by size and state -/
def fil (r : Nat → Nat → List Tr) : List Nat → Nat → List Tr
  | [], p => if p = 0 then [(0, [])] else []
  | s :: ss, p => (List.range p).flatMap fun i => (fil r ss (p - (i + 1))).flatMap fun b => (r (i + 1) s).map fun a => (a.1 + b.1, a.2 ++ b.2)
def lvlV (r : Nat → Nat → List Tr) (n s : Nat) (k : Nat) (v : Vt) : List Tr := match v.price with
  | none => []
  | some p => if v.plug = s then (fil r v.slots (n - 1)).map fun x => (p + x.1, k :: x.2) else []
def lvl (vars : List Vt) (r : Nat → Nat → List Tr) (n s : Nat) : List Tr := (vars.zipIdx).flatMap fun x => lvlV r n s x.2 x.1
/-- the trees of up to k parts -/
def tb (vars : List Vt) : Nat → Nat → Nat → List Tr
  | 0 => fun _ _ => []
  | k + 1 => fun n s => if n = k + 1 then lvl vars (tb vars k) (k + 1) s else tb vars k n s
theorem tb_big {vars : List Vt} : ∀ {k n s : Nat}, k < n → tb vars k n s = []
  | 0, _, _, _ => rfl
  | k + 1, n, s, h => by
    show (if n = k + 1 then _ else _) = _
    rw [if_neg (by omega)]
    exact tb_big (by omega)
theorem tb_zero {vars : List Vt} : ∀ {k s : Nat}, tb vars k 0 s = []
  | 0, _ => rfl
  | k + 1, s => by
    show (if 0 = k + 1 then lvl vars (tb vars k) (k + 1) s else tb vars k 0 s) = []
    rw [if_neg (by omega)]
    exact tb_zero
theorem tb_step {vars : List Vt} {k n s : Nat} (h : n ≤ k) : tb vars (k + 1) n s = tb vars k n s := if_neg (by omega)
theorem tb_at {vars : List Vt} : ∀ {k n s : Nat}, n ≤ k → tb vars k n s = tb vars n n s
  | 0, n, s, h => by
    have e : n = 0 := by omega
    subst e
    rfl
  | k + 1, n, s, h => by
    by_cases e : n = k + 1
    · subst e
      rfl
    · rw [tb_step (by omega)]
      exact tb_at (by omega)
theorem flatMap_ext {α β : Type} {f g : α → List β} : ∀ {l : List α}, (∀ x ∈ l, f x = g x) → l.flatMap f = l.flatMap g
  | [], _ => rfl
  | x :: l, h => by
    rw [List.flatMap_cons, List.flatMap_cons, h x List.mem_cons_self, flatMap_ext fun y hy => h y (List.mem_cons_of_mem _ hy)]
theorem fil_congr {r r' : Nat → Nat → List Tr} : ∀ (ss : List Nat) (p : Nat), (∀ n s, n ≤ p → r n s = r' n s) → fil r ss p = fil r' ss p
  | [], _, _ => rfl
  | s :: ss, p, h => by
    unfold fil
    refine flatMap_ext fun i hi => ?_
    have hi' : i < p := List.mem_range.mp hi
    rw [fil_congr ss (p - (i + 1)) fun n s hn => h n s (by omega), h (i + 1) s (by omega)]
theorem lvl_congr {vars : List Vt} {r r' : Nat → Nat → List Tr} {n s : Nat} (h : ∀ m s, m ≤ n - 1 → r m s = r' m s) : lvl vars r n s = lvl vars r' n s := by
  unfold lvl
  refine flatMap_ext fun x _ => ?_
  unfold lvlV
  rw [fil_congr x.1.slots (n - 1) h]
theorem tb_lvl {vars : List Vt} {k s : Nat} : tb vars (k + 1) (k + 1) s = lvl vars (tb vars k) (k + 1) s := if_pos rfl
/-! ### numbers -/
def wy (c : Nat → Nat → Nat) : List Nat → Nat → Nat
  | [], p => if p = 0 then 1 else 0
  | [s], p => c p s
  | s :: ss, p => ((List.range (p - 1)).map fun i => c (i + 1) s * wy c ss (p - (i + 1))).sum
theorem flatMap_len {α β : Type} (f : α → List β) : ∀ l : List α, (l.flatMap f).length = (l.map fun x => (f x).length).sum
  | [] => rfl
  | x :: l => by
    rw [List.flatMap_cons, List.length_append, List.map_cons, List.sum_cons, flatMap_len f l]
theorem sum_const {α : Type} (c : Nat) : ∀ l : List α, (l.map fun _ => c).sum = l.length * c
  | [] => by simp
  | x :: l => by
    rw [List.map_cons, List.sum_cons, sum_const c l, List.length_cons, Nat.succ_mul]
    omega
theorem fil_one {r : Nat → Nat → List Tr} (s : Nat) : ∀ p : Nat, (∀ s, r 0 s = []) → fil r [s] p = r p s
  | 0, h => by
    rw [h]
    rfl
  | p + 1, h => by
    unfold fil
    rw [List.range_succ, List.flatMap_append]
    have e1 : ((List.range p).flatMap fun i => (fil r [] (p + 1 - (i + 1))).flatMap fun b => (r (i + 1) s).map fun a => (a.1 + b.1, a.2 ++ b.2)) = [] := by
      rw [List.flatMap_eq_nil_iff]
      intro i hi
      have hi' : i < p := List.mem_range.mp hi
      have e : fil r [] (p + 1 - (i + 1)) = [] := if_neg (by omega)
      rw [e]
      rfl
    rw [e1, List.nil_append, List.flatMap_cons, List.flatMap_nil, List.append_nil]
    have e2 : fil r [] (p + 1 - (p + 1)) = [(0, [])] := if_pos (by omega)
    rw [e2, List.flatMap_cons, List.flatMap_nil, List.append_nil]
    conv => rhs; rw [← List.map_id (r (p + 1) s)]
    refine List.map_congr_left fun a _ => ?_
    show (a.1 + 0, a.2 ++ []) = a
    rw [Int.add_zero, List.append_nil]
theorem fil_nil0 {r : Nat → Nat → List Tr} {s : Nat} {ss : List Nat} : fil r (s :: ss) 0 = [] := rfl
theorem wy_len {r : Nat → Nat → List Tr} (h : ∀ s, r 0 s = []) : ∀ (ss : List Nat) (p : Nat), wy (fun n s => (r n s).length) ss p = (fil r ss p).length
  | [], p => by
    show (if p = 0 then 1 else 0) = (if p = 0 then [(0, [])] else [] : List Tr).length
    split <;> rfl
  | [s], p => by
    rw [fil_one s p h]
    rfl
  | s :: s2 :: ss, p => by
    show ((List.range (p - 1)).map fun i => (r (i + 1) s).length * wy (fun n s => (r n s).length) (s2 :: ss) (p - (i + 1))).sum = _
    conv => rhs; unfold fil
    rw [flatMap_len]
    cases p with
    | zero => rfl
    | succ p =>
      rw [Nat.add_sub_cancel, List.range_succ, List.map_append, List.sum_append]
      have e0 : fil r (s2 :: ss) (p + 1 - (p + 1)) = [] := by
        rw [Nat.sub_self]
        rfl
      rw [List.map_singleton, e0, List.flatMap_nil]
      show _ = _ + (0 + 0)
      rw [Nat.add_zero, Nat.add_zero]
      congr 1
      refine List.map_congr_left fun i _ => ?_
      rw [wy_len h (s2 :: ss), flatMap_len]
      have e3 : ((fil r (s2 :: ss) (p + 1 - (i + 1))).map fun b => ((r (i + 1) s).map fun a => (a.1 + b.1, a.2 ++ b.2)).length) = (fil r (s2 :: ss) (p + 1 - (i + 1))).map fun _ => (r (i + 1) s).length := List.map_congr_left fun b _ => List.length_map ..
      rw [e3, sum_const, Nat.mul_comm]
/-! ### least -/
def comb : Option Int → Option Int → Option Int
  | some a, some b => some (a + b)
  | _, _ => none
def bet : Option Int → Option Int → Option Int
  | b, none => b
  | none, some c => some c
  | some b, some c => some (min b c)
def minO (l : List Int) : Option Int := l.foldl (fun b c => bet b (some c)) none
theorem bet_assoc (a b c : Option Int) : bet (bet a b) c = bet a (bet b c) := by
  cases a <;> cases b <;> cases c <;> simp only [bet]
  congr 1
  omega
theorem bet_none (a : Option Int) : bet none a = a := by cases a <;> rfl
theorem none_bet (a : Option Int) : bet a none = a := by cases a <;> rfl
theorem minO_fold (l : List Int) : ∀ b : Option Int, l.foldl (fun b c => bet b (some c)) b = bet b (minO l) := by
  induction l with
  | nil => intro b; exact (none_bet b).symm
  | cons x l ih =>
    intro b
    show l.foldl _ (bet b (some x)) = bet b (l.foldl _ (bet none (some x)))
    rw [ih, ih, bet_none, bet_assoc]
theorem minO_app (l m : List Int) : minO (l ++ m) = bet (minO l) (minO m) := by
  unfold minO
  rw [List.foldl_append, minO_fold]
  rfl
theorem minO_cons (x : Int) (l : List Int) : minO (x :: l) = bet (some x) (minO l) := by
  show l.foldl _ (bet none (some x)) = _
  rw [minO_fold, bet_none]
theorem minO_none {l : List Int} : minO l = none ↔ l = [] := by
  cases l with
  | nil => exact ⟨fun _ => rfl, fun _ => rfl⟩
  | cons x l =>
    rw [minO_cons]
    refine ⟨fun h => ?_, fun h => by cases h⟩
    cases q : minO l with
    | none => rw [q] at h; cases h
    | some y =>
      rw [q] at h
      cases h
theorem minO_le {l : List Int} {m x : Int} (h : minO l = some m) (hx : x ∈ l) : m ≤ x := by
  induction l generalizing m with
  | nil => cases hx
  | cons y l ih =>
    rw [minO_cons] at h
    cases q : minO l with
    | none =>
      rw [q] at h
      cases h
      rw [minO_none.mp q] at hx
      rw [List.mem_singleton.mp hx]
      exact Int.le_refl _
    | some z =>
      rw [q] at h
      have e : min y z = m := Option.some.inj h
      rcases List.mem_cons.mp hx with rfl | hx
      · omega
      · have := ih q hx
        omega
theorem minO_mem {l : List Int} {m : Int} (h : minO l = some m) : m ∈ l := by
  induction l generalizing m with
  | nil => cases h
  | cons y l ih =>
    rw [minO_cons] at h
    cases q : minO l with
    | none =>
      rw [q] at h
      cases h
      exact List.mem_cons_self
    | some z =>
      rw [q] at h
      have e : min y z = m := Option.some.inj h
      by_cases hz : y ≤ z
      · rw [show m = y by omega]
        exact List.mem_cons_self
      · rw [show m = z by omega]
        exact List.mem_cons_of_mem _ (ih q)
theorem comb_bet (a b c : Option Int) : comb (bet a b) c = bet (comb a c) (comb b c) := by
  cases a <;> cases b <;> cases c <;> simp only [bet, comb]
  congr 1
  omega
theorem comb_bet' (a b c : Option Int) : comb a (bet b c) = bet (comb a b) (comb a c) := by
  cases a <;> cases b <;> cases c <;> simp only [bet, comb]
  congr 1
  omega
theorem minO_add (a : Int) (l : List Int) : minO (l.map (a + ·)) = comb (some a) (minO l) := by
  induction l with
  | nil => rfl
  | cons x l ih =>
    rw [List.map_cons, minO_cons, minO_cons, comb_bet', ih]
    rfl
theorem minO_addr (a : Int) (l : List Int) : minO (l.map (· + a)) = comb (minO l) (some a) := by
  induction l with
  | nil => rfl
  | cons x l ih =>
    rw [List.map_cons, minO_cons, minO_cons, comb_bet, ih]
    rfl
/-- least sums over two lists -/
theorem minO_prod (l m : List Int) : minO (m.flatMap fun b => l.map (· + b)) = comb (minO l) (minO m) := by
  induction m with
  | nil => cases q : minO l <;> rfl
  | cons b m ih => rw [List.flatMap_cons, minO_app, minO_addr, ih, minO_cons, comb_bet']
/-- the best of candidates -/
def best (l : List (Option Int)) : Option Int := l.foldl bet none
theorem best_fold (l : List (Option Int)) : ∀ b, l.foldl bet b = bet b (best l) := by
  induction l with
  | nil => intro b; exact (none_bet b).symm
  | cons x l ih =>
    intro b
    show l.foldl bet (bet b x) = bet b (l.foldl bet (bet none x))
    rw [ih, ih, bet_none, bet_assoc]
theorem best_cons (x : Option Int) (l : List (Option Int)) : best (x :: l) = bet x (best l) := by
  show l.foldl bet (bet none x) = _
  rw [best_fold, bet_none]
theorem best_app (l m : List (Option Int)) : best (l ++ m) = bet (best l) (best m) := by
  unfold best
  rw [List.foldl_append, best_fold]
  rfl
theorem best_snoc (l : List (Option Int)) (x : Option Int) : best (l ++ [x]) = bet (best l) x := by
  unfold best
  rw [List.foldl_append]
  rfl
theorem minO_flat {α : Type} (f : α → List Int) : ∀ l : List α, minO (l.flatMap f) = best (l.map fun x => minO (f x))
  | [] => rfl
  | x :: l => by rw [List.flatMap_cons, minO_app, minO_flat f l, List.map_cons, best_cons]
/-- least prices of fillings, by a table of least prices -/
def lf (t : Nat → Nat → Option Int) : List Nat → Nat → Option Int
  | [], p => if p = 0 then some 0 else none
  | [s], p => t p s
  | s :: ss, p => best ((List.range (p - 1)).map fun i => comb (t (i + 1) s) (lf t ss (p - (i + 1))))
theorem lf_congr {t t' : Nat → Nat → Option Int} : ∀ (ss : List Nat) (p : Nat), (∀ n s, n ≤ p → t n s = t' n s) → lf t ss p = lf t' ss p
  | [], _, _ => rfl
  | [s], p, h => h p s (Nat.le_refl _)
  | s :: s2 :: ss, p, h => by
    show best _ = best _
    congr 1
    refine List.map_congr_left fun i hi => ?_
    have hi' := List.mem_range.mp hi
    rw [h (i + 1) s (by omega), lf_congr (s2 :: ss) (p - (i + 1)) fun n s hn => h n s (by omega)]
def mn (r : Nat → Nat → List Tr) (n s : Nat) : Option Int := minO ((r n s).map (·.1))
theorem lf_min {r : Nat → Nat → List Tr} (h : ∀ s, r 0 s = []) : ∀ (ss : List Nat) (p : Nat), lf (mn r) ss p = minO ((fil r ss p).map (·.1))
  | [], p => by
    show (if p = 0 then some 0 else none) = minO ((if p = 0 then [(0, [])] else [] : List Tr).map (·.1))
    split <;> rfl
  | [s], p => by
    rw [fil_one s p h]
    rfl
  | s :: s2 :: ss, p => by
    show best ((List.range (p - 1)).map fun i => comb (mn r (i + 1) s) (lf (mn r) (s2 :: ss) (p - (i + 1)))) = _
    conv => rhs; unfold fil
    rw [List.map_flatMap, minO_flat]
    have key : ∀ i, minO (((fil r (s2 :: ss) (p - (i + 1))).flatMap fun b => (r (i + 1) s).map fun a => (a.1 + b.1, a.2 ++ b.2)).map (·.1)) = comb (mn r (i + 1) s) (lf (mn r) (s2 :: ss) (p - (i + 1))) := fun i => by
      rw [lf_min h (s2 :: ss), List.map_flatMap]
      have e : ((fil r (s2 :: ss) (p - (i + 1))).flatMap fun b => ((r (i + 1) s).map fun a => (a.1 + b.1, a.2 ++ b.2)).map (·.1)) = (((fil r (s2 :: ss) (p - (i + 1))).map (·.1)).flatMap fun b => ((r (i + 1) s).map (·.1)).map (· + b)) := by
        rw [List.flatMap_map]
        refine flatMap_ext fun b _ => ?_
        rw [List.map_map, List.map_map]
        rfl
      rw [e, minO_prod]
      rfl
    cases p with
    | zero => rfl
    | succ p =>
      rw [Nat.add_sub_cancel, List.range_succ, List.map_append, best_app, List.map_singleton]
      have e0 : fil r (s2 :: ss) (p + 1 - (p + 1)) = [] := by
        rw [Nat.sub_self]
        rfl
      rw [e0]
      show _ = bet _ none
      rw [none_bet]
      congr 1
      exact List.map_congr_left fun i _ => (key i).symm
def lvm (vars : List Vt) (t : Nat → Nat → Option Int) (n s : Nat) : Option Int := best (vars.map fun v => if v.plug = s then comb v.price (lf t v.slots (n - 1)) else none)
theorem mn_lvl {vars : List Vt} {r : Nat → Nat → List Tr} (h : ∀ s, r 0 s = []) (n s : Nat) : minO ((lvl vars r n s).map (·.1)) = lvm vars (mn r) n s := by
  unfold lvl lvm
  rw [List.map_flatMap, minO_flat]
  have e : ∀ x : Vt × Nat, minO ((lvlV r n s x.2 x.1).map (·.1)) = if x.1.plug = s then comb x.1.price (lf (mn r) x.1.slots (n - 1)) else none := fun x => by
    obtain ⟨⟨pl, sl, pr⟩, k⟩ := x
    cases pr with
    | none =>
      show minO [] = if pl = s then none else none
      split <;> rfl
    | some p =>
      show minO (((if pl = s then (fil r sl (n - 1)).map fun x => (p + x.1, k :: x.2) else [] : List Tr)).map (·.1)) = if pl = s then comb (some p) (lf (mn r) sl (n - 1)) else none
      by_cases hs : pl = s
      · rw [if_pos hs, if_pos hs, lf_min h, List.map_map, ← minO_add, List.map_map]
        rfl
      · rw [if_neg hs, if_neg hs]
        rfl
  rw [List.map_congr_left fun x _ => e x]
  rw [show (vars.zipIdx.map fun x => if x.1.plug = s then comb x.1.price (lf (mn r) x.1.slots (n - 1)) else none) = (vars.zipIdx.map Prod.fst).map (fun v => if v.plug = s then comb v.price (lf (mn r) v.slots (n - 1)) else none) by
    rw [List.map_map]
    rfl]
  rw [List.zipIdx_map_fst]
end W
namespace W
/-! ### tables: a list of lists at place l, all its places from b on -/
def Tab (b : Nat) (S : Sto) (l top n : Nat) (f : Nat → Nat → D) : Prop := ∃ ls : List Nat, S[l]? = some (.lst (ls.map D.loc)) ∧ b ≤ l ∧ ls.length = top ∧ ls.Nodup ∧ l ∉ ls ∧ ∀ i, i < top → ∃ q xs, ls[i]? = some q ∧ b ≤ q ∧ S[q]? = some (.lst xs) ∧ xs.length = n ∧ ∀ s, s < n → xs[s]? = some (f i s)
theorem up_app {S X : Sto} {k : Nat} {o : SO} (e : S[k]? = some o) : (S ++ X)[k]? = some o := by
  rw [List.getElem?_append_left (List.getElem?_eq_some_iff.mp e).1]
  exact e
theorem Tab.app {b : Nat} {S X : Sto} {l top n : Nat} {f : Nat → Nat → D} (h : Tab b S l top n f) : Tab b (S ++ X) l top n f := by
  obtain ⟨ls, h1, h0, h2, h3, h4, h5⟩ := h
  refine ⟨ls, up_app h1, h0, h2, h3, h4, fun i hi => ?_⟩
  obtain ⟨q, xs, h6, h7, h8, h9⟩ := h5 i hi
  exact ⟨q, xs, h6, h7, up_app h8, h9⟩
theorem Tab.le {b b' : Nat} {S : Sto} {l top n : Nat} {f : Nat → Nat → D} (h : Tab b S l top n f) (hb : b' ≤ b) : Tab b' S l top n f := by
  obtain ⟨ls, h1, h0, h2, h3, h4, h5⟩ := h
  refine ⟨ls, h1, Nat.le_trans hb h0, h2, h3, h4, fun i hi => ?_⟩
  obtain ⟨q, xs, h6, h7, h8⟩ := h5 i hi
  exact ⟨q, xs, h6, Nat.le_trans hb h7, h8⟩
theorem Tab.congr {b : Nat} {S : Sto} {l top n : Nat} {f f' : Nat → Nat → D} (h : Tab b S l top n f) (e : ∀ i s, i < top → s < n → f i s = f' i s) : Tab b S l top n f' := by
  obtain ⟨ls, h1, h0, h2, h3, h4, h5⟩ := h
  refine ⟨ls, h1, h0, h2, h3, h4, fun i hi => ?_⟩
  obtain ⟨q, xs, h6, h7, h8, h9, h10⟩ := h5 i hi
  exact ⟨q, xs, h6, h7, h8, h9, fun s hs => by rw [h10 s hs, e i s hi hs]⟩
theorem at_nat {xs : List D} {j : Nat} {v : D} (h : xs[j]? = some v) : atI xs (j : Int) = some v := by
  have hj := (List.getElem?_eq_some_iff.mp h).1
  unfold atI ixN
  rw [if_pos (by omega), if_pos (by omega)]
  show xs[(j : Int).toNat]? = _
  rw [Int.toNat_natCast]
  exact h
theorem ix_nat {n j : Nat} (h : j < n) : ixN n (j : Int) = some j := by
  unfold ixN
  rw [if_pos (by omega), if_pos (by omega), Int.toNat_natCast]
theorem Tab.get {b : Nat} {S : Sto} {l top n i : Nat} {f : Nat → Nat → D} (h : Tab b S l top n f) (hi : i < top) : ∃ xs ys q, S[l]? = some (.lst xs) ∧ xs.length = top ∧ atI xs (i : Int) = some (.loc q) ∧ S[q]? = some (.lst ys) ∧ ys.length = n ∧ b ≤ q ∧ ∀ s, s < n → atI ys (s : Int) = some (f i s) := by
  obtain ⟨ls, h1, _, h2, _, _, h3⟩ := h
  obtain ⟨q, xs, h4, h0, h5, h6, h7⟩ := h3 i hi
  refine ⟨ls.map D.loc, xs, q, h1, by rw [List.length_map]; exact h2, at_nat ?_, h5, h6, h0, fun s hs => at_nat (h7 s hs)⟩
  rw [List.getElem?_map, h4]
  rfl
/-- one item anew -/
theorem Tab.upd {b : Nat} {S : Sto} {l top n i s : Nat} {f f' : Nat → Nat → D} (h : Tab b S l top n f) (hi : i < top) (hs : s < n) (d : D) (e1 : f' i s = d) (e2 : ∀ j t, j < top → t < n → (j = i → t = s → False) → f' j t = f j t) :
    ∃ xs ys q, S[l]? = some (.lst xs) ∧ atI xs (i : Int) = some (.loc q) ∧ S[q]? = some (.lst ys) ∧ ixN ys.length (s : Int) = some s ∧ b ≤ q ∧ Tab b (S.set q (.lst (ys.set s d))) l top n f' := by
  obtain ⟨ls, h1, hb, h2, h3, h4, h5⟩ := h
  obtain ⟨q, xs, h6, h0, h7, h8, h9⟩ := h5 i hi
  have hq : q < S.length := (List.getElem?_eq_some_iff.mp h7).1
  refine ⟨ls.map D.loc, xs, q, h1, at_nat (by rw [List.getElem?_map, h6]; rfl), h7, ix_nat (by omega), h0, ls, ?_, hb, h2, h3, h4, fun j hj => ?_⟩
  · rw [List.getElem?_set_ne]
    · exact h1
    · intro e
      subst e
      exact h4 (List.mem_of_getElem? h6)
  · obtain ⟨r, ys, g1, g2, g3, g4, g5⟩ := h5 j hj
    by_cases ej : j = i
    · subst ej
      rw [h6] at g1
      cases g1
      rw [h7] at g3
      cases g3
      refine ⟨q, xs.set s d, h6, h0, by rw [List.getElem?_set_self hq], by rw [List.length_set]; exact h8, fun t ht => ?_⟩
      by_cases et : t = s
      · subst et
        rw [List.getElem?_set_self (by omega), e1]
      · rw [List.getElem?_set_ne (fun z => et z.symm), h9 t ht, e2 j t hj ht (fun _ z => et z)]
    · have hne : q ≠ r := fun z => by
        subst z
        have a1 := List.getElem?_eq_some_iff.mp h6
        have a2 := List.getElem?_eq_some_iff.mp g1
        exact ej ((List.getElem_inj h3 (h₀ := a2.1) (h₁ := a1.1)).mp (by rw [a1.2, a2.2]))
      refine ⟨r, ys, g1, g2, by rw [List.getElem?_set_ne hne]; exact g3, g4, fun t ht => ?_⟩
      rw [g5 t ht, e2 j t hj ht (fun z _ => ej z)]
/-- one more row -/
theorem Tab.push {b : Nat} {M g : Sto} {l top n : Nat} {f f' : Nat → Nat → D} {row : List D} (h : Tab b M l top n f) (hr : row.length = n) (e1 : ∀ s, s < n → row[s]? = some (f' top s)) (e2 : ∀ i s, i < top → s < n → f' i s = f i s) :
    ∃ xs, (M ++ .lst row :: g)[l]? = some (.lst xs) ∧ xs.length = top ∧ b ≤ l ∧ Tab b ((M ++ .lst row :: g).set l (.lst (xs ++ [.loc M.length]))) l (top + 1) n f' := by
  obtain ⟨ls, h1, hb, h2, h3, h4, h5⟩ := h
  have hl : l < M.length := (List.getElem?_eq_some_iff.mp h1).1
  have hlen : l < (M ++ SO.lst row :: g).length := by rw [List.length_append]; omega
  have hfresh : ∀ q ∈ ls, q < M.length := fun q hq => by
    obtain ⟨i, hi, e⟩ := List.getElem_of_mem hq
    obtain ⟨q', xs, g1, g2, g3, _⟩ := h5 i (by omega)
    rw [List.getElem?_eq_getElem hi, e] at g1
    cases g1
    exact (List.getElem?_eq_some_iff.mp g3).1
  refine ⟨ls.map D.loc, up_app h1, by rw [List.length_map]; exact h2, hb, ls ++ [M.length], ?_, hb, by rw [List.length_append, h2]; rfl, ?_, ?_, fun i hi => ?_⟩
  · rw [List.getElem?_set_self hlen, List.map_append]
    rfl
  · refine List.nodup_append.mpr ⟨h3, by simp, fun x hx y hy => ?_⟩
    rw [List.mem_singleton.mp hy]
    exact Nat.ne_of_lt (hfresh x hx)
  · intro hm
    rcases List.mem_append.mp hm with hm | hm
    · exact h4 hm
    · have := List.mem_singleton.mp hm
      omega
  · by_cases ei : i < top
    · obtain ⟨q, xs, g1, g2, g3, g4, g5⟩ := h5 i ei
      refine ⟨q, xs, ?_, g2, ?_, g4, fun s hs => by rw [g5 s hs, e2 i s ei hs]⟩
      · rw [List.getElem?_append_left (by omega)]
        exact g1
      · rw [List.getElem?_set_ne]
        · exact up_app g3
        · intro z
          subst z
          exact h4 (List.mem_of_getElem? g1)
    · have e : i = top := by omega
      subst e
      refine ⟨M.length, row, ?_, by omega, ?_, hr, e1⟩
      · rw [← h2]
        exact List.getElem?_concat_length
      · rw [List.getElem?_set_ne (by omega), List.getElem?_append_right (Nat.le_refl _), Nat.sub_self]
        rfl
theorem set_base {S0 Y : Sto} {q : Nat} {x : SO} (h : S0.length ≤ q) : (S0 ++ Y).set q x = S0 ++ Y.set (q - S0.length) x := List.set_append_right _ _ h
theorem at0 (x : D) (xs : List D) : atI (x :: xs) 0 = some x := at_nat (j := 0) rfl
theorem at1 (x y : D) (xs : List D) : atI (x :: y :: xs) 1 = some y := at_nat (j := 1) rfl
/-! ### numbers of trees -/
def nt (c : Nat → Nat → Nat) : Nat → Nat → D := fun i s => eN (c i s)
theorem wy_le {c : Nat → Nat → Nat} (hc : ∀ i s, c i s ≤ 2 ^ (25 * i)) (ss : List Nat) : ∀ (p : Nat), p ≤ 32 → wy c ss p ≤ 2 ^ (25 * p + 5 * ss.length) := by
  induction ss with
  | nil =>
    intro p _
    refine Nat.le_trans ?_ Nat.one_le_two_pow
    show (if p = 0 then 1 else 0) ≤ 1
    split <;> omega
  | cons s ss ih =>
    intro p hp
    cases ss with
    | nil => exact Nat.le_trans (hc p s) (Nat.pow_le_pow_right (by decide) (by omega))
    | cons s2 ss =>
      show ((List.range (p - 1)).map fun i => c (i + 1) s * wy c (s2 :: ss) (p - (i + 1))).sum ≤ _
      have h1 : ∀ l : List Nat, (∀ i ∈ l, i < p - 1) → (l.map fun i => c (i + 1) s * wy c (s2 :: ss) (p - (i + 1))).sum ≤ l.length * 2 ^ (25 * p + 5 * (s2 :: ss).length) := by
        intro l
        induction l with
        | nil => intro _; simp
        | cons x l ihl =>
          intro hx
          rw [List.map_cons, List.sum_cons, List.length_cons, Nat.succ_mul]
          have hx' := hx x List.mem_cons_self
          have e1 := Nat.mul_le_mul (hc (x + 1) s) (ih (p - (x + 1)) (by omega))
          rw [← Nat.pow_add, show 25 * (x + 1) + (25 * (p - (x + 1)) + 5 * (s2 :: ss).length) = 25 * p + 5 * (s2 :: ss).length by omega] at e1
          have e2 := ihl fun i hi => hx i (List.mem_cons_of_mem _ hi)
          omega
      have h2 := h1 (List.range (p - 1)) fun i hi => List.mem_range.mp hi
      rw [List.length_range] at h2
      refine Nat.le_trans h2 ?_
      have h3 : p - 1 ≤ 2 ^ 5 := by
        have : (2 : Nat) ^ 5 = 32 := by decide
        omega
      refine Nat.le_trans (Nat.mul_le_mul_right _ h3) ?_
      rw [← Nat.pow_add]
      refine Nat.pow_le_pow_right (by decide) ?_
      rw [List.length_cons (a := s)]
      omega
theorem cut1D (s : Nat) (ss : List Nat) : cutD ((s :: ss).map eN) (some 1) none = ss.map eN := by
  unfold cutD
  rw [show HT.sIx ((s :: ss).map eN).length 0 (some 1) = min 1 ((s :: ss).map eN).length from HT.sIx_nat _ 0 1, HT.sIx_none, List.length_map, List.length_cons, show min 1 (ss.length + 1) = 1 by omega, List.map_cons, List.drop_one, List.tail_cons, Nat.add_sub_cancel, ← List.length_map (f := eN), List.take_length]
def spWays : Nat → Rel
  | 0 => fun _ _ _ => False
  | d + 1 => fun ds S Q => ∃ (b l top n p : Nat) (c : Nat → Nat → Nat) (ss : List Nat), ds = [.loc l, .tup (ss.map eN), eN p] ∧ Tab b S l top n (nt c) ∧ p < top ∧ top ≤ 33 ∧ (∀ s ∈ ss, s < n) ∧ ss.length ≤ d ∧ ss.length ≤ 3 ∧ (∀ i s, c i s ≤ 2 ^ (25 * i)) ∧ Q (eN (wy c ss p)) S
theorem ways_ok {d : Nat} {ds : List D} {S : Sto} {Q : D → Sto → Prop} (h : spWays (d + 1) ds S Q) : b__law_ways (spWays d) (fnE S Q) (ds.map some ++ [none, none, none]) S := by
  obtain ⟨b, l, top, n, p, c, ss, rfl, ht, hp, htop, hs, hd, h3, hc, q⟩ := h
  show b__law_ways (spWays d) (fnE S Q) [some (.loc l), some (.tup (ss.map eN)), some (.int p), none, none, none] S
  unfold b__law_ways
  repeat walk_at "g"
  cases ss with
  | nil =>
    refine i_yes rfl ?_
    repeat walk_at "g"
    refine i_fin ?_
    have e : (if decide ((p : Int) = 0) = true then (1 : Int) else 0) = ((wy c [] p : Nat) : Int) := by
      show _ = (((if p = 0 then 1 else 0 : Nat)) : Int)
      by_cases z : p = 0
      · subst z; rfl
      · rw [if_neg z, if_neg (by simpa using z)]; rfl
    rw [e]
    exact q
  | cons s ss =>
    have hs0 : s < n := hs s List.mem_cons_self
    refine i_no rfl ?_
    repeat walk_at "g"
    cases ss with
    | nil =>
      refine i_yes rfl ?_
      repeat walk_at "g"
      obtain ⟨xs, ys, r, e1, _, e2, e3, _, _, e4⟩ := ht.get hp
      refine i_ixL e1 e2 ?_
      repeat walk_at "g"
      refine i_ixL e3 (e4 s hs0) ?_
      exact i_fin q
    | cons s2 ss =>
      refine i_no (decide_eq_false (by simp only [List.map_cons, List.length_cons]; omega)) ?_
      repeat walk_at "g"
      refine ⟨⟨by omega, by omega, by omega, by omega⟩, ?_⟩
      rw [show ((p : Int) - 1).toNat = p - 1 by omega]
      refine each_rng (fun i γ S' => ∃ a4 a5, γ = [some (.loc l), some (.tup ((s :: s2 :: ss).map eN)), some (.int p), some (.int (((List.range i).map fun i => c (i + 1) s * wy c (s2 :: ss) (p - (i + 1))).sum : Nat)), a4, a5] ∧ S' = S) 1 (p - 1) ?_ ?_ ⟨none, none, rfl, rfl⟩
      · rintro γ S' ⟨a4, a5, rfl, rfl⟩
        repeat walk_at "g"
        exact i_fin q
      · rintro i γ S' R hi ⟨a4, a5, rfl, rfl⟩ k
        rw [show (1 : Int) + (i : Int) = ((i + 1 : Nat) : Int) by omega]
        repeat walk_at "g"
        obtain ⟨xs, ys, r, e1, _, e2, e3, _, _, e4⟩ := ht.get (i := i + 1) (by omega)
        refine i_ixL e1 e2 ?_
        repeat walk_at "g"
        refine i_ixT (at0 _ _) ?_
        repeat walk_at "g"
        refine i_ixL e3 (show _ = some (D.int (c (i + 1) s : Nat)) from e4 s hs0) ?_
        have sum1 : ((List.range (i + 1)).map fun i => c (i + 1) s * wy c (s2 :: ss) (p - (i + 1))).sum = ((List.range i).map fun i => c (i + 1) s * wy c (s2 :: ss) (p - (i + 1))).sum + c (i + 1) s * wy c (s2 :: ss) (p - (i + 1)) := by
          rw [List.range_succ, List.map_append, List.sum_append, List.map_singleton]
          show _ + (_ + 0) = _
          rw [Nat.add_zero]
        repeat walk_at "g"
        walk_at "gi"
        · repeat walk_at "g"
          rw [cut1D, show (p : Int) - ((i + 1 : Nat) : Int) = ((p - (i + 1) : Nat) : Int) by omega]
          cases d with
          | zero => exact absurd hd (by simp only [List.length_cons]; omega)
          | succ d =>
          refine ⟨b, l, top, n, p - (i + 1), c, s2 :: ss, rfl, ht, by omega, htop, fun x hx => hs x (List.mem_cons_of_mem _ hx), by simp only [List.length_cons] at hd ⊢; omega, by simp only [List.length_cons] at h3 ⊢; omega, hc, ?_⟩
          have w1 : c (i + 1) s ≤ 2 ^ 900 := Nat.le_trans (hc (i + 1) s) (Nat.pow_le_pow_right (by decide) (by omega))
          have w2 : wy c (s2 :: ss) (p - (i + 1)) ≤ 2 ^ 900 := Nat.le_trans (wy_le hc (s2 :: ss) (p - (i + 1)) (by omega)) (Nat.pow_le_pow_right (by decide) (by simp only [List.length_cons] at h3 ⊢; omega))
          have lt9 : ∀ x : Nat, x ≤ 2 ^ 900 → ((x : Int)).natAbs < 2 ^ 901 := fun x h => by
            rw [Int.natAbs_natCast]
            exact Nat.lt_of_le_of_lt h (Nat.pow_lt_pow_right (by decide) (by decide))
          refine i_mul (.inr (wide_mul (lt9 _ w1) (lt9 _ w2) (by decide) (by decide) (by decide))) ?_
          repeat walk_at "g"
          refine k _ _ ⟨some (.int ((i + 1 : Nat) : Int)), some (.int (c (i + 1) s : Nat)), ?_, rfl⟩
          have sum2 := congrArg (fun x : Nat => (x : Int)) sum1
          simp only [Int.natCast_add, Int.natCast_mul] at sum2
          rw [sum2]
          all_goals rfl
        · repeat walk_at "g"
          refine k _ _ ⟨some (.int ((i + 1 : Nat) : Int)), some (.int (c (i + 1) s : Nat)), ?_, rfl⟩
          rename_i hz
          have z : c (i + 1) s = 0 := by omega
          rw [sum1, z, Nat.zero_mul, Nat.add_zero]
          all_goals rfl
/-- over a tuple or list of encoded things -/
theorem each_pre {α : Type} {ok : Sto → Prop} {tg : GG} {body : GTS} {E : GEnds} (enc : α → D) (vs : List α) (P : List α → Sl → Sto → Prop) (hok : ∀ pre γ S, P pre γ S → ok S) (h0 : ∀ γ S, P vs γ S → E.nx γ S)
    (hs : ∀ pre v post γ S (R : Sl → Sto → Prop), vs = pre ++ v :: post → P pre γ S → (∀ γ' S', P (pre ++ [v]) γ' S' → R γ' S') → tg (enc v) γ S fun γ1 S1 => body { nx := R, rt := E.rt, bk := E.nx, ct := R } γ1 S1) {γ : Sl} {S : Sto} (p : P [] γ S) : each ok tg body E (vs.map enc) γ S := by
  have key : ∀ (post pre : List α) γ S, vs = pre ++ post → P pre γ S → each ok tg body E (post.map enc) γ S := by
    intro post
    induction post with
    | nil =>
      intro pre γ S e p
      rw [List.append_nil] at e
      subst e
      exact ⟨hok _ _ _ p, h0 γ S p⟩
    | cons v post ih =>
      intro pre γ S e p
      exact ⟨hok _ _ _ p, hs pre v post γ S _ e p fun γ' S' p' => ih (pre ++ [v]) γ' S' (by rw [e, List.append_assoc]; rfl) p'⟩
  exact key vs [] γ S rfl p
/-- a list of one thing over and over -/
theorem comp_const {tg : GG} {te : GT D} {γ0 : Sl} {Q : D → Sto → Prop} {n : Nat} {S : Sto} (d : D) (hn : n ≤ 1000000) (ht : ∀ x γ S (QS : Sl → Sto → Prop), (∀ γ', QS γ' S) → tg x γ S QS) (hd : ∀ γ S (Q : D → Sto → Prop), Q d S → te γ S Q) (q : Q (.loc S.length) (S ++ [.lst (List.replicate n d)])) : comp (fun _ => True) tg bYes te S.length γ0 Q (rng 0 n) (S ++ [.lst []]) := by
  refine comp_rng (fun i S' => S' = S ++ [.lst (List.replicate i d)]) 0 n (fun S' e => by rw [e]; exact q) ?_ rfl
  rintro i S' R hi rfl k
  refine ht _ _ _ _ fun γ' => ?_
  refine i_byes ?_
  refine i_t ?_
  refine hd _ _ _ ?_
  refine i_comp (xs := List.replicate i d) (S := S ++ [.lst (List.replicate i d)]) List.getElem?_concat_length (small_lt (by rw [List.length_replicate]; omega)) ?_
  refine k _ ?_
  rw [List.set_append_right _ _ (Nat.le_refl _), Nat.sub_self, List.replicate_succ', List.set_cons_zero]
structure VtG (count B : Nat) (v : Vt) : Prop where
  plug : v.plug < count
  slots : ∀ s ∈ v.slots, s < count
  few : v.slots.length ≤ 3
  price : ∀ i, v.price = some i → i.natAbs ≤ B
structure FamG (B : Nat) (f : Fam) : Prop where
  one : 1 ≤ f.count
  most : f.count ≤ 1000
  vars : ∀ v ∈ f.vars, VtG f.count B v
  few : f.vars.length ≤ 1000
def cn (vars : List Vt) (k n s : Nat) : Nat := (tb vars k n s).length
def crow (vs : List Vt) (c : Nat → Nat → Nat) (n s : Nat) : Nat := (vs.map fun v => if v.price.isSome = true ∧ v.plug = s then wy c v.slots (n - 1) else 0).sum
theorem lvl_len {vars : List Vt} {r : Nat → Nat → List Tr} (h : ∀ s, r 0 s = []) (n s : Nat) : (lvl vars r n s).length = crow vars (fun n s => (r n s).length) n s := by
  unfold lvl crow
  rw [flatMap_len]
  have e : ∀ x : Vt × Nat, (lvlV r n s x.2 x.1).length = if x.1.price.isSome = true ∧ x.1.plug = s then wy (fun n s => (r n s).length) x.1.slots (n - 1) else 0 := fun x => by
    obtain ⟨⟨pl, sl, pr⟩, k⟩ := x
    cases pr with
    | none => exact (if_neg (fun z => nomatch z.1)).symm
    | some p =>
      show ((if pl = s then (fil r sl (n - 1)).map fun x => (p + x.1, k :: x.2) else [] : List Tr)).length = _
      by_cases hs : pl = s
      · rw [if_pos hs, if_pos ⟨rfl, hs⟩, List.length_map, wy_len h]
      · rw [if_neg hs, if_neg (fun z => hs z.2)]
        rfl
  rw [List.map_congr_left fun x _ => e x]
  rw [show (vars.zipIdx.map fun x => if x.1.price.isSome = true ∧ x.1.plug = s then wy (fun n s => (r n s).length) x.1.slots (n - 1) else 0) = (vars.zipIdx.map Prod.fst).map (fun v => if v.price.isSome = true ∧ v.plug = s then wy (fun n s => (r n s).length) v.slots (n - 1) else 0) by
    rw [List.map_map]
    rfl]
  rw [List.zipIdx_map_fst]
theorem cn_top {vars : List Vt} {k s : Nat} : cn vars (k + 1) (k + 1) s = crow vars (cn vars k) (k + 1) s := by
  unfold cn
  rw [tb_lvl, lvl_len fun s => tb_zero]
theorem cn_old {vars : List Vt} {k n s : Nat} (h : n ≤ k) : cn vars (k + 1) n s = cn vars k n s := by
  unfold cn
  rw [tb_step h]
theorem cn_zero {vars : List Vt} {k s : Nat} : cn vars k 0 s = 0 := by
  unfold cn
  rw [tb_zero]
  rfl
theorem sum_le {α : Type} (f : α → Nat) (c : Nat) : ∀ l : List α, (∀ x ∈ l, f x ≤ c) → (l.map f).sum ≤ l.length * c
  | [], _ => by simp
  | x :: l, h => by
    rw [List.map_cons, List.sum_cons, List.length_cons, Nat.succ_mul]
    have := h x List.mem_cons_self
    have := sum_le f c l fun y hy => h y (List.mem_cons_of_mem _ hy)
    omega
theorem cn_le {B : Nat} {f : Fam} (hf : FamG B f) : ∀ (k : Nat), k ≤ 33 → ∀ n s, cn f.vars k n s ≤ 2 ^ (25 * n)
  | 0, _, n, s => by
    unfold cn
    show 0 ≤ _
    exact Nat.zero_le _
  | k + 1, hk, n, s => by
    by_cases e : n = k + 1
    · subst e
      rw [cn_top]
      refine Nat.le_trans (sum_le _ (2 ^ (25 * k + 15)) _ fun v hv => ?_) ?_
      · split
        · refine Nat.le_trans (wy_le (cn_le hf k (by omega)) v.slots _ (by omega)) (Nat.pow_le_pow_right (by decide) ?_)
          have := (hf.vars v hv).few
          omega
        · exact Nat.zero_le _
      · have h1 : f.vars.length ≤ 2 ^ 10 := Nat.le_trans hf.few (by decide)
        refine Nat.le_trans (Nat.mul_le_mul_right _ h1) ?_
        rw [← Nat.pow_add]
        exact Nat.pow_le_pow_right (by decide) (by omega)
    · have e2 : cn f.vars (k + 1) n s = cn f.vars k n s := by
        unfold cn
        show (if n = k + 1 then _ else tb f.vars k n s).length = _
        rw [if_neg e]
      rw [e2]
      exact cn_le hf k (by omega) n s
def spCounts : Rel := fun ds S Q => ∃ (f : Fam) (top B : Nat), ds = [f.enc, eN top] ∧ FamG B f ∧ top ≤ 31 ∧ ∀ (X : Sto) (l : Nat), Tab S.length (S ++ X) l (top + 1) f.count (nt (cn f.vars top)) → Q (.loc l) (S ++ X)
theorem Tab.one {S0 S : Sto} {r n : Nat} {f : Nat → Nat → D} {row : List D} (h0 : S0.length ≤ r) (h1 : S[r]? = some (.lst row)) (h2 : row.length = n) (h3 : ∀ s, s < n → row[s]? = some (f 0 s)) (hr : S0.length ≤ S.length) : Tab S0.length (S ++ [.lst [.loc r]]) S.length 1 n f := by
  have hlt := (List.getElem?_eq_some_iff.mp h1).1
  refine ⟨[r], List.getElem?_concat_length, hr, rfl, by simp, fun z => ?_, fun i hi => ?_⟩
  · have := List.mem_singleton.mp z
    omega
  · have e : i = 0 := by omega
    subst e
    exact ⟨r, row, rfl, h0, up_app h1, h2, h3⟩
theorem rep_at {n s : Nat} {d : D} (h : s < n) : (List.replicate n d)[s]? = some d := by
  rw [List.getElem?_replicate, if_pos h]
theorem rowAt {M g : Sto} {x : SO} : (M ++ x :: g)[M.length]? = some x := by
  rw [List.getElem?_append_right (Nat.le_refl _), Nat.sub_self]
  rfl
theorem rowSet {M g : Sto} {x y : SO} : (M ++ x :: g).set M.length y = M ++ y :: g := by
  rw [List.set_append_right _ _ (Nat.le_refl _), Nat.sub_self, List.set_cons_zero]
def rowD (n : Nat) (f : Nat → D) : List D := (List.range n).map f
theorem rowD_len {n : Nat} {f : Nat → D} : (rowD n f).length = n := by simp [rowD]
theorem rowD_at {n s : Nat} {f : Nat → D} (h : s < n) : (rowD n f)[s]? = some (f s) := by
  unfold rowD
  rw [List.getElem?_map, List.getElem?_range h]
  rfl
theorem rowD_set {n s : Nat} {f f' : Nat → D} {d : D} (e1 : f' s = d) (e2 : ∀ t, t ≠ s → f' t = f t) : (rowD n f).set s d = rowD n f' := by
  refine List.ext_getElem? fun t => ?_
  by_cases ht : t < n
  · rw [rowD_at ht]
    by_cases e : s = t
    · subst e
      rw [List.getElem?_set_self (by rw [rowD_len]; exact ht), e1]
    · rw [List.getElem?_set_ne e, rowD_at ht, e2 t fun z => e z.symm]
  · rw [List.getElem?_eq_none (by rw [List.length_set, rowD_len]; omega), List.getElem?_eq_none (by rw [rowD_len]; omega)]
theorem rowD_rep {n : Nat} {d : D} : List.replicate n d = rowD n fun _ => d := by
  refine List.ext_getElem? fun t => ?_
  by_cases ht : t < n
  · rw [rowD_at ht, rep_at ht]
  · rw [List.getElem?_eq_none (by rw [List.length_replicate]; omega), List.getElem?_eq_none (by rw [rowD_len]; omega)]
theorem crow_snoc (vs : List Vt) (v : Vt) (c : Nat → Nat → Nat) (n s : Nat) : crow (vs ++ [v]) c n s = crow vs c n s + (if v.price.isSome = true ∧ v.plug = s then wy c v.slots (n - 1) else 0) := by
  unfold crow
  rw [List.map_append, List.sum_append, List.map_singleton]
  show _ + (_ + 0) = _
  rw [Nat.add_zero]
theorem isNon_oi (p : Option Int) : isNon (oi p) = p.isNone := by cases p <;> rfl
theorem counts_ok {ds : List D} {S : Sto} {Q : D → Sto → Prop} (h : spCounts ds S Q) : b__law_counts (spWays 4) (fnE S Q) (ds.map some ++ [none, none, none, none, none]) S := by
  obtain ⟨f, top, B, rfl, hf, htop, q⟩ := h
  obtain ⟨count, roots, vars⟩ := f
  show b__law_counts (spWays 4) (fnE S Q) [some (.tup [eN count, .tup (roots.map eN), .tup (vars.map Vt.enc)]), some (.int top), none, none, none, none, none] S
  have hmost : count ≤ 1000 := hf.most
  unfold b__law_counts
  repeat walk_at "g"
  refine ⟨⟨by omega, by omega⟩, ?_⟩
  rw [show ((count : Int)).toNat = count from Int.toNat_natCast _]
  refine comp_const (.int 0) (by omega) (fun _ _ _ _ h => h _) (fun _ _ _ h => h) ?_
  repeat walk_at "g"
  refine ⟨⟨by omega, by omega, by omega, by omega⟩, ?_⟩
  rw [show ((top : Int) + 1 - 1).toNat = top by omega]
  refine each_rng (fun i γ S' => ∃ (X : Sto) (l : Nat) (a3 a4 a5 : Option D), γ = [some (.tup [eN count, .tup (roots.map eN), .tup (vars.map Vt.enc)]), some (.int top), some (.loc l), a3, a4, a5, none] ∧ S' = S ++ X ∧ Tab S.length (S ++ X) l (i + 1) count (nt (cn vars i))) 1 top ?_ ?_ ⟨[.lst (List.replicate count (.int 0))] ++ [.lst [.loc S.length]], _, none, none, none, rfl, by rw [← List.append_assoc], ?_⟩
  · rintro γ S' ⟨X, l, a3, a4, a5, rfl, rfl, ht⟩
    repeat walk_at "g"
    exact i_fin (q X l ht)
  · rintro i γ S' R hi ⟨X, l, a3, a4, a5, rfl, rfl, ht⟩ k
    rw [show (1 : Int) + (i : Int) = ((i + 1 : Nat) : Int) by omega]
    repeat walk_at "g"
    refine ⟨⟨by omega, by omega⟩, ?_⟩
    rw [show ((count : Int)).toNat = count from Int.toNat_natCast _]
    refine comp_const (.int 0) (by omega) (fun _ _ _ _ h => h _) (fun _ _ _ h => h) ?_
    repeat walk_at "g"
    rw [rowD_rep]
    refine each_pre Vt.enc vars (fun pre γ S' => ∃ (a5 : Option D), γ = [some (.tup [eN count, .tup (roots.map eN), .tup (vars.map Vt.enc)]), some (.int top), some (.loc l), some (.int ((i + 1 : Nat) : Int)), some (.loc (S ++ X).length), a5, none] ∧ S' = (S ++ X) ++ .lst (rowD count fun s => eN (crow pre (cn vars i) (i + 1) s)) :: []) (fun _ _ _ _ => trivial) ?_ ?_ ⟨a5, rfl, rfl⟩
    · rintro γ S' ⟨b5, rfl, rfl⟩
      obtain ⟨xs, e1, e2, hb, ht2⟩ := ht.push (g := []) (f' := nt (cn vars (i + 1))) (row := rowD count fun s => eN (crow vars (cn vars i) (i + 1) s)) rowD_len (fun s hs => by rw [rowD_at hs]; exact congrArg (fun x => some (eN x)) cn_top.symm) (fun j s hj _ => congrArg eN (cn_old (by omega)))
      repeat walk_at "g"
      refine i_isl e1 ?_
      repeat walk_at "g"
      refine i_append e1 (small_lt (by omega)) ?_
      rw [List.append_assoc, set_base hb] at ht2 ⊢
      exact k _ _ ⟨_, l, _, _, _, rfl, rfl, ht2⟩
    · rintro pre v post γ S' R2 hv ⟨b5, rfl, rfl⟩ k2
      have hvg : VtG count B v := hf.vars v (show v ∈ vars by rw [hv]; exact List.mem_append_right _ List.mem_cons_self)
      obtain ⟨pl, sl, pr⟩ := v
      have hplug : pl < count := hvg.plug
      repeat walk_at "g"
      rw [isNon_oi]
      cases pr with
      | none =>
        refine i_no rfl ?_
        repeat walk_at "g"
        refine k2 _ _ ⟨_, rfl, ?_⟩
        rw [show (fun s => eN (crow (pre ++ [⟨pl, sl, none⟩]) (cn vars i) (i + 1) s)) = fun s => eN (crow pre (cn vars i) (i + 1) s) from funext fun s => congrArg eN (by rw [crow_snoc, if_neg (fun z => nomatch z.1), Nat.add_zero])]
      | some pz =>
        refine i_yes rfl ?_
        repeat walk_at "g"
        refine i_ixL rowAt (at_nat (rowD_at hplug)) ?_
        repeat walk_at "g"
        rw [show (((i + 1 : Nat) : Int)) - 1 = (i : Int) by omega]
        refine ⟨S.length, l, i + 1, count, i, cn vars i, sl, rfl, ht.app, by omega, by omega, hvg.slots, hvg.few, hvg.few, cn_le hf i (by omega), ?_⟩
        repeat walk_at "g"
        refine i_setL rowAt (ix_nat (by rw [rowD_len]; exact hplug)) ?_
        rw [rowSet]
        refine k2 _ _ ⟨_, rfl, ?_⟩
        congr 3
        refine rowD_set ?_ fun t ht => ?_
        · rw [crow_snoc, if_pos ⟨rfl, rfl⟩]
          exact congrArg D.int (Int.natCast_add _ _)
        · rw [crow_snoc, if_neg (fun z => ht z.2.symm), Nat.add_zero]
  · have z := Tab.one (S0 := S) (S := S ++ [.lst (List.replicate count (.int 0))]) (r := S.length) (row := List.replicate count (.int 0)) (n := count) (f := nt (cn vars 0)) (Nat.le_refl _) rowAt List.length_replicate (fun s hs => by rw [rep_at hs]; rfl) (by rw [List.length_append]; omega)
    rw [List.append_assoc] at z
    exact z
end W
namespace W
/-! ### how many sizes have few trees -/
theorem Tab.row {b : Nat} {S : Sto} {l top n i : Nat} {f : Nat → Nat → D} (h : Tab b S l top n f) (hi : i < top) : ∃ xs q, S[l]? = some (.lst xs) ∧ xs.length = top ∧ atI xs (i : Int) = some (.loc q) ∧ S[q]? = some (.lst (rowD n (f i))) := by
  obtain ⟨ls, h1, _, h2, _, _, h3⟩ := h
  obtain ⟨q, xs, h4, h0, h5, h6, h7⟩ := h3 i hi
  refine ⟨ls.map D.loc, q, h1, by rw [List.length_map]; exact h2, at_nat ?_, ?_⟩
  · rw [List.getElem?_map, h4]
    rfl
  · rw [h5]
    congr 2
    refine List.ext_getElem? fun t => ?_
    by_cases ht : t < n
    · rw [rowD_at ht, h7 t ht]
    · rw [List.getElem?_eq_none (by omega), List.getElem?_eq_none (by rw [rowD_len]; omega)]
theorem ints_map {α : Type} (g : α → Int) : ∀ xs : List α, ints? (xs.map fun x => .int (g x)) = some (xs.map g)
  | [] => rfl
  | x :: xs => by
    show (ints? (xs.map fun x => D.int (g x))).map (g x :: ·) = _
    rw [ints_map g xs]
    rfl
theorem sum_cast {α : Type} (g : α → Nat) : ∀ xs : List α, (xs.map fun x => (g x : Int)).sum = ((xs.map g).sum : Nat)
  | [] => rfl
  | x :: xs => by
    rw [List.map_cons, List.map_cons, List.sum_cons, List.sum_cons, sum_cast g xs, Int.natCast_add]
theorem mem_sum {α : Type} (g : α → Nat) : ∀ (xs : List α) (x : α), x ∈ xs → g x ≤ (xs.map g).sum
  | [], _, h => by cases h
  | y :: xs, x, h => by
    rw [List.map_cons, List.sum_cons]
    rcases List.mem_cons.mp h with rfl | h
    · omega
    · have := mem_sum g xs x h
      omega
def spReach : Rel := fun ds S Q => ∃ (b l top n : Nat) (c : Nat → Nat → Nat) (limit : Nat), ds = [.loc l, .int limit] ∧ Tab b S l (top + 1) n (nt c) ∧ top ≤ 1000 ∧ ∀ r, r ≤ top → (∀ j s, 1 ≤ j → j ≤ r → s < n → c j s ≤ limit) → Q (eN r) S
theorem reach_ok {ds : List D} {S : Sto} {Q : D → Sto → Prop} (h : spReach ds S Q) : b__law_reach (fnE S Q) (ds.map some ++ [none, none]) S := by
  obtain ⟨b, l, top, n, c, limit, rfl, ht, htop, q⟩ := h
  show b__law_reach (fnE S Q) [some (.loc l), some (.int limit), none, none] S
  unfold b__law_reach
  obtain ⟨xs0, _, l1, l2, _, _⟩ := ht.row (i := 0) (by omega)
  repeat walk_at "g"
  refine i_lenL l1 ?_
  rw [l2]
  repeat walk_at "g"
  refine ⟨⟨by omega, by omega, by omega, by omega⟩, ?_⟩
  rw [show (((top + 1 : Nat) : Int) - 1).toNat = top by omega]
  refine each_rng (fun i γ S' => ∃ (tot : Nat) (a3 : Option D), γ = [some (.loc l), some (.int limit), some (.int tot), a3] ∧ S' = S ∧ (0 < i → tot ≤ limit) ∧ ∀ j s, 1 ≤ j → j ≤ i → s < n → c j s ≤ tot) 1 top ?_ ?_ ⟨0, none, rfl, rfl, fun z => absurd z (by omega), fun j s h1 h2 => by omega⟩
  · rintro γ S' ⟨tot, a3, rfl, rfl, ha, hb⟩
    repeat walk_at "g"
    refine i_lenL l1 ?_
    rw [l2]
    repeat walk_at "g"
    rw [show (((top + 1 : Nat) : Int) - 1) = (top : Int) by omega]
    exact i_fin (q top (Nat.le_refl _) fun j s h1 h2 h3 => Nat.le_trans (hb j s h1 h2 h3) (ha (by omega)))
  · rintro i γ S' R hi ⟨tot, a3, rfl, rfl, ha, hb⟩ k
    rw [show (1 : Int) + (i : Int) = ((i + 1 : Nat) : Int) by omega]
    obtain ⟨xs, r, e1, _, e2, e3⟩ := ht.row (i := i + 1) (by omega)
    repeat walk_at "g"
    refine i_ixL e1 e2 ?_
    repeat walk_at "g"
    refine i_sum e3 (ints_map (fun s => ((c (i + 1) s : Nat) : Int)) _) ?_
    rw [sum_cast]
    repeat walk_at "g"
    rw [← Int.natCast_add]
    walk_at "gi"
    · repeat walk_at "g"
      rw [show (((i + 1 : Nat) : Int) - 1) = (i : Int) by omega]
      exact i_fin (q i (by omega) fun j s h1 h2 h3 => Nat.le_trans (hb j s h1 h2 h3) (ha (by omega)))
    · repeat walk_at "g"
      rename_i hle
      refine k _ _ ⟨tot + ((List.range n).map (c (i + 1))).sum, some (.int ((i + 1 : Nat) : Int)), rfl, rfl, fun _ => by omega, fun j s h1 h2 h3 => ?_⟩
      by_cases e : j = i + 1
      · subst e
        have := mem_sum (c (i + 1)) (List.range n) s (List.mem_range.mpr h3)
        omega
      · have := hb j s h1 (by omega) h3
        omega
/-! ### trees by size -/
abbrev encT (x : Tr) : D := .tup [.int x.1, .tup (x.2.map eN)]
theorem encT_cl {n : Nat} (x : Tr) : G.Cl n (encT x) = true := by
  unfold G.Cl
  refine Cls_of fun d hd => ?_
  rcases List.mem_cons.mp hd with rfl | hd
  · rfl
  · rw [List.mem_singleton.mp hd]
    unfold G.Cl
    exact Cls_eN _
theorem Cls_T {n : Nat} (xs : List Tr) : G.Cls n (xs.map encT) = true := Cls_of fun d hd => by
  obtain ⟨x, _, rfl⟩ := List.mem_map.mp hd
  exact encT_cl x
theorem fil_size {r : Nat → Nat → List Tr} (h : ∀ i s x, x ∈ r i s → x.2.length = i) : ∀ (ss : List Nat) (p : Nat) (x : Tr), x ∈ fil r ss p → x.2.length = p
  | [], p, x, hx => by
    unfold fil at hx
    split at hx
    · rw [List.mem_singleton.mp hx]
      exact (by assumption : p = 0).symm
    · cases hx
  | s :: ss, p, x, hx => by
    unfold fil at hx
    obtain ⟨i, hi, hx⟩ := List.mem_flatMap.mp hx
    obtain ⟨y, hy, hx⟩ := List.mem_flatMap.mp hx
    obtain ⟨z, hz, rfl⟩ := List.mem_map.mp hx
    have h1 := fil_size h ss _ y hy
    have h2 := h _ _ z hz
    have h3 := List.mem_range.mp hi
    rw [List.length_append, h1, h2]
    omega
theorem tb_size {vars : List Vt} : ∀ (k i s : Nat) (x : Tr), x ∈ tb vars k i s → x.2.length = i
  | 0, _, _, _, h => by cases h
  | k + 1, i, s, x, h => by
    unfold tb at h
    split at h
    · rename_i e
      subst e
      unfold lvl at h
      obtain ⟨⟨v, j⟩, _, h⟩ := List.mem_flatMap.mp h
      unfold lvlV at h
      split at h
      · cases h
      · split at h
        · obtain ⟨y, hy, rfl⟩ := List.mem_map.mp h
          rw [List.length_cons, fil_size (tb_size k) _ _ y hy, Nat.add_sub_cancel]
        · cases h
    · exact tb_size k i s x h
def TabT (b : Nat) (S : Sto) (l top n : Nat) (r : Nat → Nat → List Tr) : Prop := ∃ pl : Nat → Nat → Nat, Tab b S l top n (fun i s => .loc (pl i s)) ∧ ∀ i s, i < top → s < n → pl i s ≠ l ∧ S[pl i s]? = some (.lst ((r i s).map encT))
theorem TabT.app {b : Nat} {S X : Sto} {l top n : Nat} {r : Nat → Nat → List Tr} (h : TabT b S l top n r) : TabT b (S ++ X) l top n r := by
  obtain ⟨pl, h1, h2⟩ := h
  exact ⟨pl, h1.app, fun i s hi hs => ⟨(h2 i s hi hs).1, up_app (h2 i s hi hs).2⟩⟩
/-- the part of a filling's list that the first sizes give -/
def filp (r : Nat → Nat → List Tr) (s : Nat) (ss : List Nat) (p n : Nat) : List Tr := (List.range n).flatMap fun i => (fil r ss (p - (i + 1))).flatMap fun b => (r (i + 1) s).map fun a => (a.1 + b.1, a.2 ++ b.2)
def filr (r : Nat → Nat → List Tr) (s i : Nat) (bs : List Tr) : List Tr := bs.flatMap fun b => (r (i + 1) s).map fun a => (a.1 + b.1, a.2 ++ b.2)
theorem filp_succ {r : Nat → Nat → List Tr} {s : Nat} {ss : List Nat} {p n : Nat} : filp r s ss p (n + 1) = filp r s ss p n ++ filr r s n (fil r ss (p - (n + 1))) := by
  unfold filp filr
  rw [List.range_succ, List.flatMap_append, List.flatMap_cons, List.flatMap_nil, List.append_nil]
theorem filr_snoc {r : Nat → Nat → List Tr} {s i : Nat} {bs : List Tr} {b : Tr} : filr r s i (bs ++ [b]) = filr r s i bs ++ (r (i + 1) s).map fun a => (a.1 + b.1, a.2 ++ b.2) := by
  unfold filr
  rw [List.flatMap_append, List.flatMap_cons, List.flatMap_nil, List.append_nil]
theorem filp_le {r : Nat → Nat → List Tr} {s : Nat} {ss : List Nat} {p : Nat} : ∀ {n m : Nat}, n ≤ m → (filp r s ss p n).length ≤ (filp r s ss p m).length
  | n, 0, h => by
    have e : n = 0 := by omega
    subst e
    exact Nat.le_refl _
  | n, m + 1, h => by
    by_cases e : n = m + 1
    · subst e
      exact Nat.le_refl _
    · refine Nat.le_trans (filp_le (m := m) (by omega)) ?_
      rw [filp_succ, List.length_append]
      omega
theorem filr_len {r : Nat → Nat → List Tr} {s i : Nat} : ∀ {bs : List Tr}, (filr r s i bs).length = bs.length * (r (i + 1) s).length
  | [] => by simp [filr]
  | b :: bs => by
    have z := filr_len (r := r) (s := s) (i := i) (bs := bs)
    unfold filr at z ⊢
    rw [List.flatMap_cons, List.length_append, z, List.length_map, List.length_cons, Nat.succ_mul]
    omega
def spFill : Nat → Rel
  | 0 => fun _ _ _ => False
  | d + 1 => fun ds S Q => ∃ (b l top n p : Nat) (r : Nat → Nat → List Tr) (ss : List Nat), ds = [.loc l, .tup (ss.map eN), eN p] ∧ TabT b S l top n r ∧ p < top ∧ top ≤ 1000 ∧ (∀ s ∈ ss, s < n) ∧ ss.length ≤ d ∧ (∀ i s x, x ∈ r i s → x.2.length = i) ∧ (fil r ss p).length ≤ 1000000 ∧ Q (.loc S.length) (S ++ [.lst ((fil r ss p).map encT)])
theorem ClO_le {n m : Nat} (h : n ≤ m) {o : SO} (c : ClO n o = true) : ClO m o = true := by
  cases o with
  | lst ds => exact (cl_mono_all n m h).2 _ c
  | dic kvs =>
    unfold ClO at c ⊢
    rw [List.all_eq_true] at c ⊢
    exact fun x hx => (cl_mono_all n m h).1 _ (c x hx)
  | dit kvs =>
    unfold ClO at c ⊢
    rw [List.all_eq_true] at c ⊢
    exact fun x hx => (cl_mono_all n m h).1 _ (c x hx)
  | ins x kvs =>
    unfold ClO at c ⊢
    rw [List.all_eq_true] at c ⊢
    exact fun x hx => (cl_mono_all n m h).1 _ (c x hx)
theorem ClS_lst {S : Sto} (c : ClS S) {xs : List Tr} : ClS (S ++ [.lst (xs.map encT)]) := fun o ho => by
  rcases List.mem_append.mp ho with ho | ho
  · have z := c o ho
    refine ClO_le ?_ z
    rw [List.length_append]
    omega
  · rw [List.mem_singleton.mp ho]
    exact Cls_T xs
theorem fill_ok {d : Nat} {ds : List D} {S : Sto} {Q : D → Sto → Prop} (h : spFill (d + 1) ds S Q) (c : ClS S) : b__law_fillings (spFill d) (fnE S Q) (ds.map some ++ [none, none, none, none, none]) S := by
  obtain ⟨b, l, top, n, p, r, ss, rfl, ht, hp, htop, hs, hd, hr, hl, q⟩ := h
  show b__law_fillings (spFill d) (fnE S Q) [some (.loc l), some (.tup (ss.map eN)), some (.int p), none, none, none, none, none] S
  unfold b__law_fillings
  repeat walk_at "g"
  cases ss with
  | nil =>
    refine i_yes rfl ?_
    repeat walk_at "g"
    walk_at "gi"
    · rename_i z
      have e : p = 0 := by omega
      subst e
      repeat walk_at "g"
      exact i_fin q
    · rename_i z
      have e : fil r [] p = [] := if_neg (by omega)
      rw [e] at q
      repeat walk_at "g"
      exact i_fin q
  | cons s ss =>
    have hs0 : s < n := hs s List.mem_cons_self
    refine i_no rfl ?_
    repeat walk_at "g"
    refine ⟨⟨by omega, by omega, by omega, by omega⟩, ?_⟩
    rw [show ((p : Int) + 1 - 1).toNat = p by omega]
    refine each_rng (fun i γ S' => ∃ (g : Sto) (a4 a5 a6 a7 : Option D), γ = [some (.loc l), some (.tup ((s :: ss).map eN)), some (.int p), some (.loc S.length), a4, a5, a6, a7] ∧ S' = S ++ .lst ((filp r s ss p i).map encT) :: g) 1 p ?_ ?_ ⟨[], none, none, none, none, rfl, rfl⟩
    · rintro γ S' ⟨g, a4, a5, a6, a7, rfl, rfl⟩
      repeat walk_at "g"
      show Kp S Q (.loc S.length) _
      rw [← List.singleton_append, ← List.append_assoc]
      exact kp_pre (ClS_lst c) (by rw [List.length_append]; omega) (by unfold G.Cl; rw [List.length_append]; exact decide_eq_true (Nat.lt_succ_self _)) q
    · rintro i γ S' R hi ⟨g, a4, a5, a6, a7, rfl, rfl⟩ k
      rw [show (1 : Int) + (i : Int) = ((i + 1 : Nat) : Int) by omega]
      obtain ⟨pl, ht1, ht2⟩ := ht
      obtain ⟨xs, q1, e1, _, e2, e3⟩ := ht1.row (i := i + 1) (by omega)
      have e4 := (ht2 (i + 1) s (by omega) hs0).2
      have hpl : pl (i + 1) s < S.length := (List.getElem?_eq_some_iff.mp e4).1
      repeat walk_at "g"
      refine i_ixL (up_app e1) e2 ?_
      repeat walk_at "g"
      refine i_ixT (at0 _ _) ?_
      repeat walk_at "g"
      refine i_ixL (up_app e3) (at_nat (rowD_at hs0)) ?_
      repeat walk_at "g"
      refine i_onL (up_app e4) ?_
      cases hri : (r (i + 1) s) with
      | nil =>
        refine i_no rfl ?_
        repeat walk_at "g"
        refine k _ _ ⟨g, _, _, _, _, rfl, ?_⟩
        rw [filp_succ, show filr r s i (fil r ss (p - (i + 1))) = [] by
          unfold filr
          rw [List.flatMap_eq_nil_iff]
          intro x _
          rw [hri]
          rfl, List.append_nil]
      | cons r0 rs =>
        refine i_yes rfl ?_
        repeat walk_at "g"
        rw [cut1D, show (p : Int) - ((i + 1 : Nat) : Int) = ((p - (i + 1) : Nat) : Int) by omega]
        cases d with
        | zero => exact absurd hd (by simp only [List.length_cons]; omega)
        | succ d =>
        have tot : (filp r s ss p (i + 1)).length ≤ 1000000 := Nat.le_trans (filp_le (show i + 1 ≤ p by omega)) hl
        have tot2 : (filp r s ss p i).length + (fil r ss (p - (i + 1))).length * (r (i + 1) s).length ≤ 1000000 := by
          rw [filp_succ, List.length_append, filr_len] at tot
          exact tot
        have hpos : 1 ≤ (r (i + 1) s).length := by rw [hri]; exact Nat.succ_pos _
        refine ⟨b, l, top, n, p - (i + 1), r, ss, rfl, TabT.app ⟨pl, ht1, ht2⟩, by omega, htop, fun x hx => hs x (List.mem_cons_of_mem _ hx), by simp only [List.length_cons] at hd ⊢; omega, hr, ?_, ?_⟩
        · have := Nat.mul_le_mul_left (fil r ss (p - (i + 1))).length hpos
          omega
        refine i_onSL List.getElem?_concat_length ?_
        repeat walk_at "g"
        rw [List.append_assoc, List.cons_append]
        generalize hG : g ++ [SO.lst ((fil r ss (p - (i + 1))).map encT)] = g'
        have look : ∀ x : SO, (S ++ x :: g')[(S ++ SO.lst ((filp r s ss p i).map encT) :: g).length]? = some (.lst ((fil r ss (p - (i + 1))).map encT)) := fun x => by
          subst hG
          rw [show S ++ x :: (g ++ [SO.lst ((fil r ss (p - (i + 1))).map encT)]) = (S ++ x :: g) ++ [SO.lst ((fil r ss (p - (i + 1))).map encT)] by simp, show (S ++ SO.lst ((filp r s ss p i).map encT) :: g).length = (S ++ x :: g).length by simp]
          exact List.getElem?_concat_length
        refine each_pre encT (fil r ss (p - (i + 1))) (fun pre γ S' => ∃ (a6 a7 : Option D), γ = [some (.loc l), some (.tup ((s :: ss).map eN)), some (.int p), some (.loc S.length), some (.int ((i + 1 : Nat) : Int)), some (.loc (pl (i + 1) s)), a6, a7] ∧ S' = S ++ .lst ((filp r s ss p i ++ filr r s i pre).map encT) :: g') (fun pre γ S' h => ?_) ?_ ?_ ⟨a6, a7, rfl, by rw [show filr r s i [] = [] from rfl, List.append_nil]⟩
        · obtain ⟨_, _, _, rfl⟩ := h
          exact look _
        · rintro γ S' ⟨b6, b7, rfl, rfl⟩
          exact k _ _ ⟨g', _, _, _, _, rfl, by rw [filp_succ]⟩
        · rintro pre x post γ S' R2 hv ⟨b6, b7, rfl, rfl⟩ k2
          have hx : x ∈ fil r ss (p - (i + 1)) := by rw [hv]; exact List.mem_append_right _ List.mem_cons_self
          have hxl := fil_size hr ss _ x hx
          have hpre : (pre.length + 1) * (r (i + 1) s).length ≤ (fil r ss (p - (i + 1))).length * (r (i + 1) s).length := Nat.mul_le_mul_right _ (by rw [hv, List.length_append, List.length_cons]; omega)
          rw [Nat.succ_mul] at hpre
          repeat walk_at "g"
          refine i_onSL (up_app e4) ?_
          repeat walk_at "g"
          refine each_pre encT (r (i + 1) s) (fun pr2 γ S' => ∃ (a7 : Option D), γ = [some (.loc l), some (.tup ((s :: ss).map eN)), some (.int p), some (.loc S.length), some (.int ((i + 1 : Nat) : Int)), some (.loc (pl (i + 1) s)), some (encT x), a7] ∧ S' = S ++ .lst ((filp r s ss p i ++ filr r s i pre ++ pr2.map fun a => (a.1 + x.1, a.2 ++ x.2)).map encT) :: g') (fun pr2 γ S' h => ?_) ?_ ?_ ⟨b7, rfl, by rw [List.map_nil, List.append_nil]⟩
          · obtain ⟨_, _, rfl⟩ := h
            exact up_app e4
          · rintro γ S' ⟨c7, rfl, rfl⟩
            exact k2 _ _ ⟨_, _, rfl, by rw [filr_snoc, List.append_assoc]⟩
          · rintro pr2 y po2 γ S' R3 hv2 ⟨c7, rfl, rfl⟩ k3
            have hy : y ∈ r (i + 1) s := by rw [hv2]; exact List.mem_append_right _ List.mem_cons_self
            have hyl := hr _ _ y hy
            have hpr2 : pr2.length + 1 ≤ (r (i + 1) s).length := by rw [hv2, List.length_append, List.length_cons]; omega
            repeat walk_at "g"
            refine i_isl rowAt ?_
            repeat walk_at "g"
            refine i_addT (small_size (by rw [List.length_map, List.length_map, hxl, hyl]; omega)) ?_
            repeat walk_at "g"
            refine i_append rowAt (small_lt (by rw [List.length_map, List.length_append, List.length_append, List.length_map, filr_len]; omega)) ?_
            rw [rowSet]
            repeat walk_at "g"
            refine k3 _ _ ⟨_, rfl, ?_⟩
            rw [← map_snoc (fun a : Tr => (a.1 + x.1, a.2 ++ x.2)), ← List.append_assoc, ← map_snoc encT, ← List.map_append (f := eN)]
end W
namespace W
/-! ### all trees by size -/
def lsts (n : Nat) (g : Nat → List Tr) : Sto := (List.range n).map fun s => .lst ((g s).map encT)
def lplc (b n : Nat) : List D := rowD n fun s => .loc (b + s)
theorem lsts_at {A : Sto} {n s : Nat} {g : Nat → List Tr} {G : Sto} (h : s < n) : (A ++ (lsts n g ++ G))[A.length + s]? = some (.lst ((g s).map encT)) := by
  rw [List.getElem?_append_right (by omega), show A.length + s - A.length = s by omega]
  refine up_app ?_
  unfold lsts
  rw [List.getElem?_map, List.getElem?_range h]
  rfl
theorem lsts_set {A : Sto} {n s : Nat} {g g' : Nat → List Tr} {G : Sto} (h : s < n) (x : List Tr) (e1 : g' s = x) (e2 : ∀ t, t ≠ s → g' t = g t) : (A ++ (lsts n g ++ G)).set (A.length + s) (.lst (x.map encT)) = A ++ (lsts n g' ++ G) := by
  rw [List.set_append_right _ _ (by omega), show A.length + s - A.length = s by omega, List.set_append_left _ _ (by simp [lsts]; exact h)]
  congr 2
  unfold lsts
  refine List.ext_getElem? fun t => ?_
  by_cases ht : t < n
  · rw [List.getElem?_map, List.getElem?_range ht]
    by_cases e : s = t
    · subst e
      rw [List.getElem?_set_self (by simp; exact ht)]
      show _ = some (SO.lst ((g' s).map encT))
      rw [e1]
    · rw [List.getElem?_set_ne e, List.getElem?_map, List.getElem?_range ht]
      show some (SO.lst ((g t).map encT)) = some (SO.lst ((g' t).map encT))
      rw [e2 t fun z => e z.symm]
  · rw [List.getElem?_eq_none (by simp; omega), List.getElem?_eq_none (by simp; omega)]
/-- a list of fresh lists -/
theorem comp_lists {tg : GG} {te : GT D} {γ0 : Sl} {Q : D → Sto → Prop} {n : Nat} {S : Sto} (hn : n ≤ 1000000) (ht : ∀ x γ S (QS : Sl → Sto → Prop), (∀ γ', QS γ' S) → tg x γ S QS) (hd : ∀ γ S (Q : D → Sto → Prop), Q (.loc S.length) (S ++ [.lst []]) → te γ S Q) (q : Q (.loc S.length) (S ++ .lst (lplc (S.length + 1) n) :: lsts n fun _ => [])) : comp (fun _ => True) tg bYes te S.length γ0 Q (rng 0 n) (S ++ [.lst []]) := by
  refine comp_rng (fun i S' => S' = S ++ .lst (lplc (S.length + 1) i) :: lsts i fun _ => []) 0 n (fun S' e => by rw [e]; exact q) ?_ rfl
  rintro i S' R hi rfl k
  refine ht _ _ _ _ fun γ' => ?_
  refine i_byes ?_
  refine i_t ?_
  refine hd _ _ _ ?_
  rw [List.append_assoc, List.cons_append]
  refine i_comp (S := S ++ .lst (lplc (S.length + 1) i) :: (lsts i (fun _ => []) ++ [.lst []])) rowAt (small_lt (by unfold lplc; rw [rowD_len]; omega)) ?_
  refine k _ ?_
  rw [rowSet]
  congr 2
  · congr 1
    unfold lplc rowD
    rw [List.range_succ, List.map_append, List.map_singleton, List.length_append, List.length_cons, show (lsts i fun _ => []).length = i by simp [lsts]]
    congr 3
    omega
  · unfold lsts
    rw [List.range_succ, List.map_append]
    rfl
theorem TabT.push {b : Nat} {M G : Sto} {l top n : Nat} {r r' : Nat → Nat → List Tr} {g : Nat → List Tr} (h : TabT b M l top n r) (hb : b ≤ M.length) (e1 : ∀ s, s < n → r' top s = g s) (e2 : ∀ i s, i < top → s < n → r' i s = r i s) :
    ∃ xs, (M ++ .lst (lplc (M.length + 1) n) :: (lsts n g ++ G))[l]? = some (.lst xs) ∧ xs.length = top ∧ b ≤ l ∧ TabT b ((M ++ .lst (lplc (M.length + 1) n) :: (lsts n g ++ G)).set l (.lst (xs ++ [.loc M.length]))) l (top + 1) n r' := by
  obtain ⟨pl, h1, h2⟩ := h
  have hl : l < M.length := by
    obtain ⟨ls, z, _⟩ := h1
    exact (List.getElem?_eq_some_iff.mp z).1
  obtain ⟨xs, a1, a2, a3, a4⟩ := h1.push (g := lsts n g ++ G) (row := lplc (M.length + 1) n) (f' := fun i s => .loc (if i = top then M.length + 1 + s else pl i s)) rowD_len (fun s hs => by unfold lplc; rw [rowD_at hs, if_pos rfl]) (fun i s hi hs => by rw [if_neg (by omega)])
  refine ⟨xs, a1, a2, a3, _, a4, fun i s hi hs => ?_⟩
  by_cases e : i = top
  · subst e
    rw [if_pos rfl]
    refine ⟨by omega, ?_⟩
    rw [List.getElem?_set_ne (by omega), e1 s hs, show M ++ SO.lst (lplc (M.length + 1) n) :: (lsts n g ++ G) = (M ++ [SO.lst (lplc (M.length + 1) n)]) ++ (lsts n g ++ G) by simp, show M.length + 1 + s = (M ++ [SO.lst (lplc (M.length + 1) n)]).length + s by simp]
    exact lsts_at hs
  · rw [if_neg e]
    obtain ⟨b1, b2⟩ := h2 i s (by omega) hs
    refine ⟨b1, ?_⟩
    rw [List.getElem?_set_ne (fun z => b1 z.symm), e2 i s (by omega) hs]
    exact up_app b2
/-- the trees by the first so many variants -/
def lvp (vars : List Vt) (r : Nat → Nat → List Tr) (n i s : Nat) : List Tr := ((vars.zipIdx).take i).flatMap fun x => lvlV r n s x.2 x.1
theorem zip_at {α : Type} {xs : List α} {i : Nat} {x : α} (h : xs[i]? = some x) : (xs.zipIdx)[i]? = some (x, i) := by
  rw [List.getElem?_zipIdx, h]
  simp
theorem take_succ_at {α : Type} {xs : List α} {i : Nat} {x : α} (h : xs[i]? = some x) : xs.take (i + 1) = xs.take i ++ [x] := by
  rw [List.take_succ, h]
  rfl
theorem lvp_succ {vars : List Vt} {r : Nat → Nat → List Tr} {n i s : Nat} {v : Vt} (h : vars[i]? = some v) : lvp vars r n (i + 1) s = lvp vars r n i s ++ lvlV r n s i v := by
  unfold lvp
  rw [take_succ_at (zip_at h), List.flatMap_append, List.flatMap_cons, List.flatMap_nil, List.append_nil]
theorem lvp_all {vars : List Vt} {r : Nat → Nat → List Tr} {n s : Nat} : lvp vars r n vars.length s = lvl vars r n s := by
  unfold lvp lvl
  rw [List.take_of_length_le (by rw [List.length_zipIdx]; exact Nat.le_refl _)]
theorem lvp_le {vars : List Vt} {r : Nat → Nat → List Tr} {n s : Nat} {i : Nat} : (lvp vars r n i s).length ≤ (lvl vars r n s).length := by
  unfold lvp lvl
  conv => rhs; rw [← List.take_append_drop i vars.zipIdx]
  rw [List.flatMap_append, List.length_append]
  omega
def spTrees : Rel := fun ds S Q => ∃ (f : Fam) (top B : Nat), ds = [f.enc, eN top] ∧ FamG B f ∧ top ≤ 31 ∧ (∀ n s, n ≤ top → s < f.count → cn f.vars top n s ≤ 1000000) ∧ ∀ (X : Sto) (l : Nat), TabT S.length (S ++ X) l (top + 1) f.count (tb f.vars top) → Q (.loc l) (S ++ X)
theorem trees_ok {ds : List D} {S : Sto} {Q : D → Sto → Prop} (h : spTrees ds S Q) : b__law_trees (spFill 4) (fnE S Q) (ds.map some ++ [none, none, none, none, none, none, none]) S := by
  obtain ⟨f, top, B, rfl, hf, htop, hcn, q⟩ := h
  obtain ⟨count, roots, vars⟩ := f
  show b__law_trees (spFill 4) (fnE S Q) [some (.tup [eN count, .tup (roots.map eN), .tup (vars.map Vt.enc)]), some (.int top), none, none, none, none, none, none, none] S
  have hmost : count ≤ 1000 := hf.most
  have hfew : vars.length ≤ 1000 := hf.few
  unfold b__law_trees
  repeat walk_at "g"
  refine ⟨⟨by omega, by omega⟩, ?_⟩
  rw [show ((count : Int)).toNat = count from Int.toNat_natCast _]
  refine comp_lists (by omega) (fun _ _ _ _ h => h _) (fun _ _ _ h => ⟨Nat.zero_le _, h⟩) ?_
  repeat walk_at "g"
  refine ⟨⟨by omega, by omega, by omega, by omega⟩, ?_⟩
  rw [show ((top : Int) + 1 - 1).toNat = top by omega]
  refine each_rng (fun i γ S' => ∃ (X : Sto) (l : Nat) (a3 a4 a5 a6 a7 : Option D), γ = [some (.tup [eN count, .tup (roots.map eN), .tup (vars.map Vt.enc)]), some (.int top), some (.loc l), a3, a4, a5, a6, a7, none] ∧ S' = S ++ X ∧ TabT S.length (S ++ X) l (i + 1) count (tb vars i)) 1 top ?_ ?_ ⟨_, _, none, none, none, none, none, rfl, List.append_assoc _ _ _, ?_⟩
  · rintro γ S' ⟨X, l, a3, a4, a5, a6, a7, rfl, rfl, ht⟩
    repeat walk_at "g"
    exact i_fin (q X l ht)
  · rintro i γ S' R hi ⟨X, l, a3, a4, a5, a6, a7, rfl, rfl, ht⟩ k
    rw [show (1 : Int) + (i : Int) = ((i + 1 : Nat) : Int) by omega]
    repeat walk_at "g"
    refine ⟨⟨by omega, by omega⟩, ?_⟩
    rw [show ((count : Int)).toNat = count from Int.toNat_natCast _]
    refine comp_lists (by omega) (fun _ _ _ _ h => h _) (fun _ _ _ h => ⟨Nat.zero_le _, h⟩) ?_
    repeat walk_at "g"
    rw [List.length_map]
    refine ⟨⟨by omega, by omega⟩, ?_⟩
    rw [show ((vars.length : Int)).toNat = vars.length from Int.toNat_natCast _]
    have hML : S.length ≤ (S ++ X).length := by rw [List.length_append]; omega
    generalize hM : S ++ X = M at ht hML ⊢
    have hcnt : ∀ s, s < count → (lvl vars (tb vars i) (i + 1) s).length ≤ 1000000 := fun s hs => by
      have z := hcn (i + 1) s (by omega) hs
      unfold cn at z
      rw [tb_at (by omega), tb_lvl] at z
      exact z
    refine each_rng (fun j γ S' => ∃ (g : Sto) (a5 a6 a7 : Option D), γ = [some (.tup [eN count, .tup (roots.map eN), .tup (vars.map Vt.enc)]), some (.int top), some (.loc l), some (.int ((i + 1 : Nat) : Int)), some (.loc M.length), a5, a6, a7, none] ∧ S' = M ++ .lst (lplc (M.length + 1) count) :: (lsts count (lvp vars (tb vars i) (i + 1) j) ++ g)) 0 vars.length ?_ ?_ ⟨[], a5, a6, a7, rfl, by rw [List.append_nil]; rfl⟩
    · rintro γ S' ⟨g, b5, b6, b7, rfl, rfl⟩
      obtain ⟨xs, e1, e2, hb, ht2⟩ := ht.push (G := g) (r' := tb vars (i + 1)) (g := lvp vars (tb vars i) (i + 1) vars.length) hML (fun s hs => by rw [lvp_all, tb_lvl]) (fun j s hj _ => tb_step (by omega))
      repeat walk_at "g"
      refine i_isl e1 ?_
      repeat walk_at "g"
      refine i_append e1 (small_lt (by omega)) ?_
      subst hM
      rw [List.append_assoc, set_base hb] at ht2 ⊢
      exact k _ _ ⟨_, l, _, _, _, _, _, rfl, rfl, ht2⟩
    · rintro j γ S' R2 hj ⟨g, b5, b6, b7, rfl, rfl⟩ k2
      rw [show (0 : Int) + (j : Int) = (j : Int) by omega]
      have hv := List.getElem?_eq_getElem hj
      generalize vars[j] = v at hv
      have hvg : VtG count B v := hf.vars v (List.mem_of_getElem? hv)
      obtain ⟨pl, sl, pr⟩ := v
      have hplug : pl < count := hvg.plug
      repeat walk_at "g"
      refine i_ixT (at_nat (by rw [List.getElem?_map, hv]; rfl)) ?_
      repeat walk_at "g"
      rw [isNon_oi]
      cases pr with
      | none =>
        refine i_no rfl ?_
        repeat walk_at "g"
        refine k2 _ _ ⟨g, _, _, _, rfl, ?_⟩
        rw [show lvp vars (tb vars i) (i + 1) (j + 1) = lvp vars (tb vars i) (i + 1) j from funext fun s => by rw [lvp_succ hv]; exact List.append_nil _]
      | some pz =>
        refine i_yes rfl ?_
        repeat walk_at "g"
        rw [show (((i + 1 : Nat) : Int)) - 1 = (i : Int) by omega]
        have hlv : ∀ s, lvlV (tb vars i) (i + 1) s j ⟨pl, sl, some pz⟩ = if pl = s then (fil (tb vars i) sl i).map fun x => (pz + x.1, j :: x.2) else [] := fun s => rfl
        have tot : (lvp vars (tb vars i) (i + 1) j pl).length + (fil (tb vars i) sl i).length ≤ 1000000 := by
          have z := Nat.le_trans (lvp_le (i := j + 1)) (hcnt pl hplug)
          rw [lvp_succ hv, hlv, if_pos rfl, List.length_append, List.length_map] at z
          exact z
        refine ⟨S.length, l, i + 1, count, i, tb vars i, sl, rfl, ht.app, by omega, by omega, hvg.slots, hvg.few, tb_size i, by omega, ?_⟩
        refine i_onSL List.getElem?_concat_length ?_
        repeat walk_at "g"
        rw [List.append_assoc, List.cons_append, List.append_assoc]
        generalize hG : g ++ [SO.lst ((fil (tb vars i) sl i).map encT)] = g'
        have look : ∀ h : Nat → List Tr, (M ++ SO.lst (lplc (M.length + 1) count) :: (lsts count h ++ g'))[(M ++ SO.lst (lplc (M.length + 1) count) :: (lsts count (lvp vars (tb vars i) (i + 1) j) ++ g)).length]? = some (.lst ((fil (tb vars i) sl i).map encT)) := fun h => by
          subst hG
          rw [show M ++ SO.lst (lplc (M.length + 1) count) :: (lsts count h ++ (g ++ [SO.lst ((fil (tb vars i) sl i).map encT)])) = (M ++ SO.lst (lplc (M.length + 1) count) :: (lsts count h ++ g)) ++ [SO.lst ((fil (tb vars i) sl i).map encT)] by simp, show (M ++ SO.lst (lplc (M.length + 1) count) :: (lsts count (lvp vars (tb vars i) (i + 1) j) ++ g)).length = (M ++ SO.lst (lplc (M.length + 1) count) :: (lsts count h ++ g)).length by simp [lsts]]
          exact List.getElem?_concat_length
        refine each_pre encT (fil (tb vars i) sl i) (fun pre γ S' => ∃ (a7 : Option D), γ = [some (.tup [eN count, .tup (roots.map eN), .tup (vars.map Vt.enc)]), some (.int top), some (.loc l), some (.int ((i + 1 : Nat) : Int)), some (.loc M.length), some (.int j), some (.tup [.int pl, .tup (sl.map eN), .int pz]), a7, none] ∧ S' = M ++ .lst (lplc (M.length + 1) count) :: (lsts count (fun s => if s = pl then lvp vars (tb vars i) (i + 1) j pl ++ pre.map (fun x => (pz + x.1, j :: x.2)) else lvp vars (tb vars i) (i + 1) j s) ++ g')) (fun pre γ S' h => ?_) ?_ ?_ ⟨b7, rfl, ?_⟩
        · obtain ⟨_, _, rfl⟩ := h
          exact look _
        · rintro γ S' ⟨c7, rfl, rfl⟩
          refine k2 _ _ ⟨g', _, _, _, rfl, ?_⟩
          rw [show lvp vars (tb vars i) (i + 1) (j + 1) = (fun s => if s = pl then lvp vars (tb vars i) (i + 1) j pl ++ (fil (tb vars i) sl i).map (fun x => (pz + x.1, j :: x.2)) else lvp vars (tb vars i) (i + 1) j s) from funext fun s => by
            rw [lvp_succ hv, hlv]
            by_cases e : s = pl
            · subst e
              rw [if_pos rfl, if_pos rfl]
            · rw [if_neg e, if_neg (fun z => e z.symm), List.append_nil]]
        · rintro pre x post γ S' R3 hv2 ⟨c7, rfl, rfl⟩ k3
          have hx : x ∈ fil (tb vars i) sl i := by rw [hv2]; exact List.mem_append_right _ List.mem_cons_self
          have hxl := fil_size (tb_size i) sl _ x hx
          have hpre : pre.length + 1 ≤ (fil (tb vars i) sl i).length := by rw [hv2, List.length_append, List.length_cons]; omega
          repeat walk_at "g"
          refine i_ixL rowAt (at_nat (rowD_at hplug)) ?_
          rw [show M ++ SO.lst (lplc (M.length + 1) count) :: (lsts count (fun s => if s = pl then lvp vars (tb vars i) (i + 1) j pl ++ pre.map (fun x => (pz + x.1, j :: x.2)) else lvp vars (tb vars i) (i + 1) j s) ++ g') = (M ++ [SO.lst (lplc (M.length + 1) count)]) ++ (lsts count (fun s => if s = pl then lvp vars (tb vars i) (i + 1) j pl ++ pre.map (fun x => (pz + x.1, j :: x.2)) else lvp vars (tb vars i) (i + 1) j s) ++ g') by simp, show M.length + 1 + pl = (M ++ [SO.lst (lplc (M.length + 1) count)]).length + pl by rw [List.length_append (bs := [_])]; rfl]
          refine i_isl (lsts_at hplug) ?_
          repeat walk_at "g"
          refine i_addT (small_size (by rw [List.length_map, hxl]; show 1 + i ≤ _; omega)) ?_
          repeat walk_at "g"
          refine i_append (lsts_at hplug) (small_lt (by rw [if_pos rfl, List.length_map, List.length_append, List.length_map]; omega)) ?_
          rw [show (D.tup [D.int (pz + x.fst), D.tup ([D.int ↑j] ++ List.map eN x.snd)]) = encT (pz + x.1, j :: x.2) from rfl, map_snoc encT, lsts_set (g' := fun s => if s = pl then lvp vars (tb vars i) (i + 1) j pl ++ (pre ++ [x]).map (fun x => (pz + x.1, j :: x.2)) else lvp vars (tb vars i) (i + 1) j s) hplug _ (by rw [if_pos rfl, if_pos rfl, List.append_assoc, ← map_snoc (fun x : Tr => (pz + x.1, j :: x.2))]) (fun t ht => by rw [if_neg ht, if_neg ht])]
          repeat walk_at "g"
          refine k3 _ _ ⟨_, rfl, by simp⟩
        · rw [show (fun s => if s = pl then lvp vars (tb vars i) (i + 1) j pl ++ ([] : List Tr).map (fun x => (pz + x.1, j :: x.2)) else lvp vars (tb vars i) (i + 1) j s) = lvp vars (tb vars i) (i + 1) j from funext fun s => by
            by_cases e : s = pl
            · subst e
              rw [if_pos rfl, List.map_nil, List.append_nil]
            · rw [if_neg e]]
  · have z := Tab.one (S0 := S) (S := S ++ .lst (lplc (S.length + 1) count) :: lsts count fun _ => []) (r := S.length) (row := lplc (S.length + 1) count) (n := count) (f := fun i s => .loc (S.length + 1 + s)) (Nat.le_refl _) rowAt rowD_len (fun s hs => rowD_at hs) (by rw [List.length_append]; omega)
    rw [List.append_assoc] at z
    refine ⟨_, z, fun i s hi hs => ⟨?_, ?_⟩⟩
    · rw [List.length_append, List.length_cons, show (lsts count fun _ => []).length = count by simp [lsts]]
      omega
    · have y := lsts_at (A := S ++ [.lst (lplc (S.length + 1) count)]) (n := count) (s := s) (g := fun _ => []) (G := [.lst [.loc S.length]]) hs
      rw [show tb vars 0 i s = [] from rfl]
      simpa using y
end W
end
section
open PySem PySem.Spec L2 G
namespace W
def topS (i : Nat) : Stmt := PySem.Challenge.pw_slotwise_k68_least_by_size.main.body.getD i (.Pass ⟨0, 0, 0, 0⟩)
abbrev s_least_filling : Stmt := topS 1
abbrev N_least_filling : List Str := ["sizes", "slots", "parts", "best", "first", "price", "rest"]
theorem sc_least_filling : FnScope N_least_filling ["sizes", "slots", "parts"] (defScope s_least_filling) := ⟨rfl, rfl, rfl, by decide +kernel, rfl, by decide +kernel, by decide +kernel⟩
abbrev s_least_by_size : Stmt := topS 2
abbrev N_least_by_size : List Str := ["family", "state", "most", "sizes", "parts", "plug", "slots", "price", "rest", "other"]
theorem sc_least_by_size : FnScope N_least_by_size ["family", "state", "most"] (defScope s_least_by_size) := ⟨rfl, rfl, rfl, by decide +kernel, rfl, by decide +kernel, by decide +kernel⟩
abbrev s__law_tape : Stmt := topS 4
abbrev N__law_tape : List Str := ["_law_script", "_law_total", "_law_cell"]
theorem sc__law_tape : FnScope N__law_tape ["_law_script"] (defScope s__law_tape) := ⟨rfl, rfl, rfl, by decide +kernel, rfl, by decide +kernel, by decide +kernel⟩
abbrev s__law_draw : Stmt := topS 5
abbrev N__law_draw : List Str := ["_law_tape_here", "_law_menu", "_law_number", "_law_place"]
theorem sc__law_draw : FnScope N__law_draw ["_law_tape_here", "_law_menu"] (defScope s__law_draw) := ⟨rfl, rfl, rfl, by decide +kernel, rfl, by decide +kernel, by decide +kernel⟩
abbrev s__law_price : Stmt := topS 6
abbrev N__law_price : List Str := ["_law_tape_here", "_law_mode", "_law_low", "_law_price_here"]
theorem sc__law_price : FnScope N__law_price ["_law_tape_here", "_law_mode", "_law_low"] (defScope s__law_price) := ⟨rfl, rfl, rfl, by decide +kernel, rfl, by decide +kernel, by decide +kernel⟩
abbrev s__law_family : Stmt := topS 7
abbrev N__law_family : List Str := ["_law_tape_here", "_law_states", "_law_variants", "_law_low", "_law_count", "_law_shape", "_law_mode", "_law_rows", "_law_k", "_law_roots", "_law_plug", "_law_slots", "_law_j", "_law_row", "_law_state", "_law_goal"]
theorem sc__law_family : FnScope N__law_family ["_law_tape_here", "_law_states", "_law_variants", "_law_low"] (defScope s__law_family) := ⟨rfl, rfl, rfl, by decide +kernel, rfl, by decide +kernel, by decide +kernel⟩
abbrev s__law_size : Stmt := topS 8
abbrev N__law_size : List Str := ["_law_variant", "_law_sizes_here", "_law_size_here", "_law_state"]
theorem sc__law_size : FnScope N__law_size ["_law_variant", "_law_sizes_here"] (defScope s__law_size) := ⟨rfl, rfl, rfl, by decide +kernel, rfl, by decide +kernel, by decide +kernel⟩
abbrev s__law_sizes : Stmt := topS 9
abbrev N__law_sizes : List Str := ["_law_family_here", "_law_sizes_here", "_law_turn", "_law_changed", "_law_variant", "_law_size_here", "_law_state"]
theorem sc__law_sizes : FnScope N__law_sizes ["_law_family_here"] (defScope s__law_sizes) := ⟨rfl, rfl, rfl, by decide +kernel, rfl, by decide +kernel, by decide +kernel⟩
abbrev s__law_priced : Stmt := topS 10
abbrev N__law_priced : List Str := ["_law_family_here", "_law_tree_here", "_law_number"]
theorem sc__law_priced : FnScope N__law_priced ["_law_family_here", "_law_tree_here"] (defScope s__law_priced) := ⟨rfl, rfl, rfl, by decide +kernel, rfl, by decide +kernel, by decide +kernel⟩
abbrev s__law_tree : Stmt := topS 11
abbrev N__law_tree : List Str := ["_law_tape_here", "_law_family_here", "_law_sizes_here", "_law_state", "_law_room", "_law_stack", "_law_need", "_law_tree_here", "_law_turn", "_law_goal", "_law_fitting", "_law_number", "_law_slot", "_law_size_here"]
theorem sc__law_tree : FnScope N__law_tree ["_law_tape_here", "_law_family_here", "_law_sizes_here", "_law_state", "_law_room"] (defScope s__law_tree) := ⟨rfl, rfl, rfl, by decide +kernel, rfl, by decide +kernel, by decide +kernel⟩
abbrev s__law_ways : Stmt := topS 12
abbrev N__law_ways : List Str := ["_law_counts_here", "_law_slots", "_law_parts", "_law_total", "_law_size_here", "_law_number"]
theorem sc__law_ways : FnScope N__law_ways ["_law_counts_here", "_law_slots", "_law_parts"] (defScope s__law_ways) := ⟨rfl, rfl, rfl, by decide +kernel, rfl, by decide +kernel, by decide +kernel⟩
abbrev s__law_counts : Stmt := topS 13
abbrev N__law_counts : List Str := ["_law_family_here", "_law_top", "_law_counts_here", "_law_size_here", "_law_row", "_law_variant", "_law_state"]
theorem sc__law_counts : FnScope N__law_counts ["_law_family_here", "_law_top"] (defScope s__law_counts) := ⟨rfl, rfl, rfl, by decide +kernel, rfl, by decide +kernel, by decide +kernel⟩
abbrev s__law_reach : Stmt := topS 14
abbrev N__law_reach : List Str := ["_law_counts_here", "_law_limit", "_law_total", "_law_size_here"]
theorem sc__law_reach : FnScope N__law_reach ["_law_counts_here", "_law_limit"] (defScope s__law_reach) := ⟨rfl, rfl, rfl, by decide +kernel, rfl, by decide +kernel, by decide +kernel⟩
abbrev s__law_fillings : Stmt := topS 15
abbrev N__law_fillings : List Str := ["_law_rows", "_law_slots", "_law_parts", "_law_found", "_law_size_here", "_law_firsts", "_law_rest", "_law_first"]
theorem sc__law_fillings : FnScope N__law_fillings ["_law_rows", "_law_slots", "_law_parts"] (defScope s__law_fillings) := ⟨rfl, rfl, rfl, by decide +kernel, rfl, by decide +kernel, by decide +kernel⟩
abbrev s__law_trees : Stmt := topS 16
abbrev N__law_trees : List Str := ["_law_family_here", "_law_top", "_law_rows", "_law_size_here", "_law_row", "_law_number", "_law_variant", "_law_filling", "_law_state"]
theorem sc__law_trees : FnScope N__law_trees ["_law_family_here", "_law_top"] (defScope s__law_trees) := ⟨rfl, rfl, rfl, by decide +kernel, rfl, by decide +kernel, by decide +kernel⟩
abbrev s__law_same : Stmt := topS 17
abbrev N__law_same : List Str := ["_law_actual", "_law_due"]
theorem sc__law_same : FnScope N__law_same ["_law_actual", "_law_due"] (defScope s__law_same) := ⟨rfl, rfl, rfl, by decide +kernel, rfl, by decide +kernel, by decide +kernel⟩
abbrev s__law_large : Stmt := topS 18
abbrev N__law_large : List Str := ["_law_tape_here", "_law_low", "_law_count", "_law_step", "_law_ring", "_law_factor", "_law_leaves", "_law_rows", "_law_state", "_law_price_here", "_law_goal"]
theorem sc__law_large : FnScope N__law_large ["_law_tape_here", "_law_low"] (defScope s__law_large) := ⟨rfl, rfl, rfl, by decide +kernel, rfl, by decide +kernel, by decide +kernel⟩
abbrev s__law_times : Stmt := topS 19
abbrev N__law_times : List Str := ["_law_family_here", "_law_factor", "_law_rows", "_law_variant", "_law_price_here"]
theorem sc__law_times : FnScope N__law_times ["_law_family_here", "_law_factor"] (defScope s__law_times) := ⟨rfl, rfl, rfl, by decide +kernel, rfl, by decide +kernel, by decide +kernel⟩
abbrev s__law_least_filling : Stmt := topS 20
abbrev N__law_least_filling : List Str := ["_law_rows", "_law_slots", "_law_parts", "_law_best", "_law_size_here", "_law_price_here", "_law_rest"]
theorem sc__law_least_filling : FnScope N__law_least_filling ["_law_rows", "_law_slots", "_law_parts"] (defScope s__law_least_filling) := ⟨rfl, rfl, rfl, by decide +kernel, rfl, by decide +kernel, by decide +kernel⟩
abbrev s__law_case : Stmt := topS 21
abbrev N__law_case : List Str := ["_law_tape_here", "_law_family_here", "_law_top", "_law_state", "_law_rows", "_law_size_here", "_law_row", "_law_variant", "_law_price_here", "_law_goal"]
theorem sc__law_case : FnScope N__law_case ["_law_tape_here", "_law_family_here"] (defScope s__law_case) := ⟨rfl, rfl, rfl, by decide +kernel, rfl, by decide +kernel, by decide +kernel⟩
abbrev s_law : Stmt := topS 22
abbrev N_law : List Str := ["_law_script", "_law_tape_here", "_law_large_here", "_law_first", "_law_second", "_law_cases", "_law_case_here", "_law_state", "_law_told", "_law_reach_here", "_law_rows", "_law_size_here", "_law_sizes_here", "_law_prices", "_law_tree_here"]
theorem sc_law : FnScope N_law ["_law_script"] (defScope s_law) := ⟨rfl, rfl, rfl, by decide +kernel, rfl, by decide +kernel, by decide +kernel⟩
/-- where the defs stand -/
structure Fs where
  a_least_filling : Addr
  d_least_filling : FuncData
  a_least_by_size : Addr
  d_least_by_size : FuncData
  a__law_tape : Addr
  d__law_tape : FuncData
  a__law_draw : Addr
  d__law_draw : FuncData
  a__law_price : Addr
  d__law_price : FuncData
  a__law_family : Addr
  d__law_family : FuncData
  a__law_size : Addr
  d__law_size : FuncData
  a__law_sizes : Addr
  d__law_sizes : FuncData
  a__law_priced : Addr
  d__law_priced : FuncData
  a__law_tree : Addr
  d__law_tree : FuncData
  a__law_ways : Addr
  d__law_ways : FuncData
  a__law_counts : Addr
  d__law_counts : FuncData
  a__law_reach : Addr
  d__law_reach : FuncData
  a__law_fillings : Addr
  d__law_fillings : FuncData
  a__law_trees : Addr
  d__law_trees : FuncData
  a__law_same : Addr
  d__law_same : FuncData
  a__law_large : Addr
  d__law_large : FuncData
  a__law_times : Addr
  d__law_times : FuncData
  a__law_least_filling : Addr
  d__law_least_filling : FuncData
  a__law_case : Addr
  d__law_case : FuncData
  a_law : Addr
  d_law : FuncData
/-- what the top has left -/
structure Tx (K : PySem.W.Frag) (mg : Str → Option Value) (F : Fs) : Prop where
  D_least_filling : DefOk K mg "least_filling" s_least_filling ["sizes", "slots", "parts"] F.a_least_filling F.d_least_filling
  D_least_by_size : DefOk K mg "least_by_size" s_least_by_size ["family", "state", "most"] F.a_least_by_size F.d_least_by_size
  D__law_tape : DefOk K mg "_law_tape" s__law_tape ["_law_script"] F.a__law_tape F.d__law_tape
  D__law_draw : DefOk K mg "_law_draw" s__law_draw ["_law_tape_here", "_law_menu"] F.a__law_draw F.d__law_draw
  D__law_price : DefOk K mg "_law_price" s__law_price ["_law_tape_here", "_law_mode", "_law_low"] F.a__law_price F.d__law_price
  D__law_family : DefOk K mg "_law_family" s__law_family ["_law_tape_here", "_law_states", "_law_variants", "_law_low"] F.a__law_family F.d__law_family
  D__law_size : DefOk K mg "_law_size" s__law_size ["_law_variant", "_law_sizes_here"] F.a__law_size F.d__law_size
  D__law_sizes : DefOk K mg "_law_sizes" s__law_sizes ["_law_family_here"] F.a__law_sizes F.d__law_sizes
  D__law_priced : DefOk K mg "_law_priced" s__law_priced ["_law_family_here", "_law_tree_here"] F.a__law_priced F.d__law_priced
  D__law_tree : DefOk K mg "_law_tree" s__law_tree ["_law_tape_here", "_law_family_here", "_law_sizes_here", "_law_state", "_law_room"] F.a__law_tree F.d__law_tree
  D__law_ways : DefOk K mg "_law_ways" s__law_ways ["_law_counts_here", "_law_slots", "_law_parts"] F.a__law_ways F.d__law_ways
  D__law_counts : DefOk K mg "_law_counts" s__law_counts ["_law_family_here", "_law_top"] F.a__law_counts F.d__law_counts
  D__law_reach : DefOk K mg "_law_reach" s__law_reach ["_law_counts_here", "_law_limit"] F.a__law_reach F.d__law_reach
  D__law_fillings : DefOk K mg "_law_fillings" s__law_fillings ["_law_rows", "_law_slots", "_law_parts"] F.a__law_fillings F.d__law_fillings
  D__law_trees : DefOk K mg "_law_trees" s__law_trees ["_law_family_here", "_law_top"] F.a__law_trees F.d__law_trees
  D__law_same : DefOk K mg "_law_same" s__law_same ["_law_actual", "_law_due"] F.a__law_same F.d__law_same
  D__law_large : DefOk K mg "_law_large" s__law_large ["_law_tape_here", "_law_low"] F.a__law_large F.d__law_large
  D__law_times : DefOk K mg "_law_times" s__law_times ["_law_family_here", "_law_factor"] F.a__law_times F.d__law_times
  D__law_least_filling : DefOk K mg "_law_least_filling" s__law_least_filling ["_law_rows", "_law_slots", "_law_parts"] F.a__law_least_filling F.d__law_least_filling
  D__law_case : DefOk K mg "_law_case" s__law_case ["_law_tape_here", "_law_family_here"] F.a__law_case F.d__law_case
  D_law : DefOk K mg "law" s_law ["_law_script"] F.a_law F.d_law
  z_abs : mg "abs" = none
  z_int : mg "int" = none
  z_len : mg "len" = none
  z_list : mg "list" = none
  z_max : mg "max" = none
  z_min : mg "min" = none
  z_range : mg "range" = none
  z_repr : mg "repr" = none
  z_reversed : mg "reversed" = none
  z_sum : mg "sum" = none
  z_tuple : mg "tuple" = none
def b_least_filling (R_least_filling : Rel) : GTS :=
  sSeq (sIf (bNot (bTruth (gVar 1))) (sRet (gIf (bTest (gBin (dEq false) (gVar 2) (gC (.int 0)))) (gC (.int 0)) (gC .non))) (sNext))
  (sSeq (sIf (bTest (gBin (dEq false) (gCall bLen (aCons (gVar 1) (aNil))) (gC (.int 1)))) (sRet (gBin dIx (gBin dIx (gVar 0) (gBin dIx (gVar 1) (gC (.int 0)))) (gVar 2))) (sNext))
  (sSeq (sAsg (gC .non) (tName 3))
  (sSeq (sFor (wRange2 (aCons (gC (.int 1)) (aCons (gVar 2) (aNil)))) (tName 4)
  (sSeq (sAsg (gBin dIx (gBin dIx (gVar 0) (gBin dIx (gVar 1) (gC (.int 0)))) (gVar 4)) (tName 5))
  (sSeq (sAsg (gFn R_least_filling [] (aCons (gVar 0) (aCons (gSl (gVar 1) (pSome (gC (.int 1))) (pNone)) (aCons (gBin dSub (gVar 2) (gVar 4)) (aNil))))) (tName 6))
  (sIf (bAnd (bTest (gBin (dIs true) (gVar 5) (gC .non))) (bAnd (bTest (gBin (dIs true) (gVar 6) (gC .non))) (bOr (bTest (gBin (dIs false) (gVar 3) (gC .non))) (bTest (gBin dLt (gBin dAdd (gVar 5) (gVar 6)) (gVar 3)))))) (sAsg (gBin dAdd (gVar 5) (gVar 6)) (tName 3)) (sNext)))))
  (sRet (gVar 3)))))
def b_least_by_size (R_least_filling : Rel) : GTS :=
  sSeq (sAsg (gLc (wRange1 (aCons (gBin dIx (gVar 0) (gC (.int 0))) (aNil))) (tName 9) (bYes) (gBin dMul (gLst (aCons (gC .non) (aNil))) (gBin dAdd (gVar 2) (gC (.int 1)))) [9]) (tName 3))
  (sSeq (sFor (wRange2 (aCons (gC (.int 1)) (aCons (gBin dAdd (gVar 2) (gC (.int 1))) (aNil)))) (tName 4)
  (sFor (wSeq (gBin dIx (gVar 0) (gC (.int 2)))) (tTup 3 (tCons (tName 5) (tCons (tName 6) (tCons (tName 7) (tNil)))))
  (sSeq (sAsg (gIf (bTest (gBin (dIs false) (gVar 7) (gC .non))) (gC .non) (gFn R_least_filling [] (aCons (gVar 3) (aCons (gVar 6) (aCons (gBin dSub (gVar 4) (gC (.int 1))) (aNil)))))) (tName 8))
  (sIf (bAnd (bTest (gBin (dIs true) (gVar 8) (gC .non))) (bOr (bTest (gBin (dIs false) (gBin dIx (gBin dIx (gVar 3) (gVar 5)) (gVar 4)) (gC .non))) (bTest (gBin dLt (gBin dAdd (gVar 7) (gVar 8)) (gBin dIx (gBin dIx (gVar 3) (gVar 5)) (gVar 4)))))) (sAsg (gBin dAdd (gVar 7) (gVar 8)) (tSub (gBin dIx (gVar 3) (gVar 5)) (gVar 4))) (sNext)))))
  (sRet (gCall bTuple (aCons (gSl (gBin dIx (gVar 3) (gVar 1)) (pSome (gC (.int 1))) (pNone)) (aNil)))))
def b__law_least_filling (R__law_least_filling : Rel) : GTS :=
  sSeq (sIf (bNot (bTruth (gVar 1))) (sRet (gBin dIx (gLst (aCons (gC (.int 0)) (aCons (gC .non) (aNil)))) (gCall bInt (aCons (gBin dGt (gVar 2) (gC (.int 0))) (aNil))))) (sNext))
  (sSeq (sIf (bTest (gBin (dEq false) (gCall bLen (aCons (gVar 1) (aNil))) (gC (.int 1)))) (sRet (gBin dIx (gBin dIx (gVar 0) (gVar 2)) (gBin dIx (gVar 1) (gC (.int 0))))) (sNext))
  (sSeq (sAsg (gC .non) (tName 3))
  (sSeq (sFor (wRange2 (aCons (gC (.int 1)) (aCons (gVar 2) (aNil)))) (tName 4)
  (sSeq (sAsg (gBin dIx (gBin dIx (gVar 0) (gVar 4)) (gBin dIx (gVar 1) (gC (.int 0)))) (tName 5))
  (sIf (bTest (gBin (dIs true) (gVar 5) (gC .non))) (sSeq (sAsg (gFn R__law_least_filling [] (aCons (gVar 0) (aCons (gSl (gVar 1) (pSome (gC (.int 1))) (pNone)) (aCons (gBin dSub (gVar 2) (gVar 4)) (aNil))))) (tName 6))
  (sIf (bAnd (bTest (gBin (dIs true) (gVar 6) (gC .non))) (bOr (bTest (gBin (dIs false) (gVar 3) (gC .non))) (bTest (gBin dLt (gBin dAdd (gVar 5) (gVar 6)) (gVar 3))))) (sAsg (gBin dAdd (gVar 5) (gVar 6)) (tName 3)) (sNext))) (sNext))))
  (sRet (gVar 3)))))
def b__law_case (R__law_draw : Rel) (R__law_least_filling : Rel) : GTS :=
  sSeq (sAsg (gBin dAdd (gC (.int 1)) (gFn R__law_draw [] (aCons (gVar 0) (aCons (gBin dIx (gLst (aCons (gC (.int 5)) (aCons (gC (.int 10)) (aCons (gC (.int 20)) (aNil))))) (gFn R__law_draw [] (aCons (gVar 0) (aCons (gC (.int 3)) (aNil))))) (aNil))))) (tName 2))
  (sSeq (sAsg (gFn R__law_draw [] (aCons (gVar 0) (aCons (gBin dIx (gVar 1) (gC (.int 0))) (aNil)))) (tName 3))
  (sSeq (sAsg (gLst (aCons (gLc (wRange1 (aCons (gBin dIx (gVar 1) (gC (.int 0))) (aNil))) (tName 9) (bYes) (gC .non) [9]) (aNil))) (tName 4))
  (sSeq (sFor (wRange2 (aCons (gC (.int 1)) (aCons (gBin dAdd (gVar 2) (gC (.int 1))) (aNil)))) (tName 5)
  (sSeq (sAsg (gLc (wRange1 (aCons (gBin dIx (gVar 1) (gC (.int 0))) (aNil))) (tName 9) (bYes) (gC .non) [9]) (tName 6))
  (sSeq (sFor (wSeq (gBin dIx (gVar 1) (gC (.int 2)))) (tName 7)
  (sIf (bTest (gBin (dIs true) (gBin dIx (gVar 7) (gC (.int 2))) (gC .non))) (sSeq (sAsg (gFn R__law_least_filling [] (aCons (gVar 4) (aCons (gBin dIx (gVar 7) (gC (.int 1))) (aCons (gBin dSub (gVar 5) (gC (.int 1))) (aNil))))) (tName 8))
  (sIf (bAnd (bTest (gBin (dIs true) (gVar 8) (gC .non))) (bOr (bTest (gBin (dIs false) (gBin dIx (gVar 6) (gBin dIx (gVar 7) (gC (.int 0)))) (gC .non))) (bTest (gBin dLt (gBin dAdd (gVar 8) (gBin dIx (gVar 7) (gC (.int 2)))) (gBin dIx (gVar 6) (gBin dIx (gVar 7) (gC (.int 0)))))))) (sAsg (gBin dAdd (gVar 8) (gBin dIx (gVar 7) (gC (.int 2)))) (tSub (gVar 6) (gBin dIx (gVar 7) (gC (.int 0))))) (sNext))) (sNext)))
  (sExpr (gMeth mAppend (gVar 4) (aCons (gVar 6) (aNil)))))))
  (sRet (gTup (aCons (gVar 1) (aCons (gVar 3) (aCons (gVar 2) (aCons (gCall bTuple (aCons (gLc (wRange2 (aCons (gC (.int 1)) (aCons (gBin dAdd (gVar 2) (gC (.int 1))) (aNil)))) (tName 5) (bYes) (gBin dIx (gBin dIx (gVar 4) (gVar 5)) (gVar 3)) [5]) (aNil))) (aNil))))))))))
def b_law (R__law_tape : Rel) (R__law_draw : Rel) (R__law_family : Rel) (R__law_times : Rel) (R__law_large : Rel) (R__law_case : Rel) (R__law_same : Rel) (R_least_by_size : Rel) (R__law_reach : Rel) (R__law_counts : Rel) (R__law_trees : Rel) (R__law_sizes : Rel) (R__law_tree : Rel) (R__law_priced : Rel) : GTS :=
  sSeq (sAsg (gFn R__law_tape [] (aCons (gVar 0) (aNil))) (tName 1))
  (sSeq (sAsg (gFn R__law_draw [] (aCons (gVar 1) (aCons (gC (.int 8)) (aNil)))) (tName 2))
  (sSeq (sAsg (gFn R__law_family [] (aCons (gVar 1) (aCons (gC (.int 5)) (aCons (gC (.int 6)) (aCons (gC (.int 1)) (aNil)))))) (tName 3))
  (sSeq (sAsg (gFn R__law_times [] (aCons (gFn R__law_family [] (aCons (gVar 1) (aCons (gC (.int 5)) (aCons (gC (.int 6)) (aCons (gC (.int 1)) (aNil)))))) (aCons (gBin dIx (gLst (aCons (gC (.int 1)) (aCons (gC (.int 1)) (aCons (gC (.int 1)) (aCons (gBin dPow (gC (.int 10)) (gC (.int 30))) (aNil)))))) (gFn R__law_draw [] (aCons (gVar 1) (aCons (gC (.int 4)) (aNil))))) (aNil)))) (tName 4))
  (sSeq (sIf (bTest (gBin (dEq false) (gVar 2) (gC (.int 0)))) (sAsg (gFn R__law_large [] (aCons (gVar 1) (aCons (gC (.int 1)) (aNil)))) (tName 3)) (sNext))
  (sSeq (sAsg (gLst (aCons (gFn R__law_case [] (aCons (gVar 1) (aCons (gVar 3) (aNil)))) (aCons (gFn R__law_case [] (aCons (gVar 1) (aCons (gVar 4) (aNil)))) (aNil)))) (tName 5))
  (sSeq (sFor (wSeq (gLst (aCons (gBin dIx (gVar 5) (gC (.int 0))) (aCons (gBin dIx (gVar 5) (gC (.int 1))) (aCons (gBin dIx (gVar 5) (gC (.int 0))) (aNil)))))) (tName 6)
  (sIf (bNot (bTruth (gFn R__law_same [] (aCons (gFn R_least_by_size [] (aCons (gBin dIx (gVar 6) (gC (.int 0))) (aCons (gBin dIx (gVar 6) (gC (.int 1))) (aCons (gBin dIx (gVar 6) (gC (.int 2))) (aNil))))) (aCons (gBin dIx (gVar 6) (gC (.int 3))) (aNil)))))) (sRet (gC (.bl false))) (sNext)))
  (sSeq (sAsg (gBin dIx (gBin dIx (gVar 5) (gC (.int 1))) (gC (.int 1))) (tName 7))
  (sSeq (sAsg (gFn R_least_by_size [] (aCons (gVar 4) (aCons (gVar 7) (aCons (gBin dIx (gBin dIx (gVar 5) (gC (.int 1))) (gC (.int 2))) (aNil))))) (tName 8))
  (sSeq (sAsg (gFn R__law_reach [] (aCons (gFn R__law_counts [] (aCons (gVar 4) (aCons (gBin dIx (gBin dIx (gVar 5) (gC (.int 1))) (gC (.int 2))) (aNil)))) (aCons (gC (.int 100)) (aNil)))) (tName 9))
  (sSeq (sAsg (gFn R__law_trees [] (aCons (gVar 4) (aCons (gVar 9) (aNil)))) (tName 10))
  (sSeq (sFor (wRange2 (aCons (gC (.int 1)) (aCons (gBin dAdd (gVar 9) (gC (.int 1))) (aNil)))) (tName 11)
  (sSeq (sAsg (gLc (wSeq (gBin dIx (gBin dIx (gVar 10) (gVar 11)) (gVar 7))) (tName 14) (bYes) (gBin dIx (gVar 14) (gC (.int 0))) [14]) (tName 13))
  (sIf (bOr (bTest (gBin (dEq true) (gBin (dIs false) (gBin dIx (gVar 8) (gBin dSub (gVar 11) (gC (.int 1)))) (gC .non)) (gNot (gVar 13)))) (bAnd (bTruth (gVar 13)) (bTest (gBin (dEq true) (gBin dIx (gVar 8) (gBin dSub (gVar 11) (gC (.int 1)))) (gCall bMinL (aCons (gVar 13) (aNil))))))) (sRet (gC (.bl false))) (sNext))))
  (sSeq (sAsg (gFn R__law_sizes [] (aCons (gVar 4) (aNil))) (tName 12))
  (sSeq (sIf (bAnd (bTest (gBin (dIs true) (gBin dIx (gVar 12) (gVar 7)) (gC .non))) (bTest (gBin dLe (gBin dIx (gVar 12) (gVar 7)) (gBin dIx (gBin dIx (gVar 5) (gC (.int 1))) (gC (.int 2)))))) (sSeq (sAsg (gFn R__law_tree [] (aCons (gVar 1) (aCons (gVar 4) (aCons (gVar 12) (aCons (gVar 7) (aCons (gBin dIx (gBin dIx (gVar 5) (gC (.int 1))) (gC (.int 2))) (aNil))))))) (tName 14))
  (sRet (gAnd (gBin (dIs true) (gBin dIx (gVar 8) (gBin dSub (gCall bLen (aCons (gVar 14) (aNil))) (gC (.int 1)))) (gC .non)) (gBin dGe (gFn R__law_priced [] (aCons (gVar 4) (aCons (gVar 14) (aNil)))) (gBin dIx (gVar 8) (gBin dSub (gCall bLen (aCons (gVar 14) (aNil))) (gC (.int 1)))))))) (sNext))
  (sRet (gC (.bl true))))))))))))))))
section
variable {P : Program} {w : World} {K : PySem.W.Frag} {mg : Str → Option Value} {base : Heap} {F : Fs}
theorem x_least_filling {R_least_filling : Rel} {k : Nat} (hk : 0 ≤ k) (T : Tx K mg F) (G_least_filling : GFn P w K mg base CX0 k F.a_least_filling F.d_least_filling ["sizes", "slots", "parts"] R_least_filling) {R : Rel} (hm : MonoR R) (hl : ∀ ds S Q, R ds S Q → ds.length = 3)
    (hR : ∀ ds S Q, R ds S Q → ClS S → Cls S.length ds = true → b_least_filling R_least_filling (fnE S Q) (startD N_least_filling ds) S) : GFn P w K mg base CX0 (k + 1) F.a_least_filling F.d_least_filling ["sizes", "slots", "parts"] R := by
  refine gfn_of T.D_least_filling.fn sc_least_filling (fun cdv A outer s H E hgd hr => ?_) hm hl hR
  exact gss_cons (gs_if (gb_not (gb_truth (ge_var (pv 1)))) (gss_one (gs_ret (ge_if (gb_cmp (go_eq hr.units) (ge_var (pv 2)) (ge_int) (nomark _)) (ge_int) (ge_non)))) (gss_nil))
      (gss_cons (gs_if (gb_cmp (go_eq hr.units) (ge_callB gc_len (by rfl) T.z_len (by decide +kernel) (ga_cons (ge_var (pv 1)) (ga_nil))) (ge_int) (nomark _)) (gss_one (gs_ret (ge_ix (ge_ix (ge_var (pv 0)) (ge_ix (ge_var (pv 1)) (ge_int) (fun _ _ => rfl)) (fun _ _ => rfl)) (ge_var (pv 2)) (fun _ _ => rfl)))) (gss_nil))
      (gss_cons (gs_set (i := 3) sc_least_filling.nd rfl (Or.inl rfl) (ge_non))
      (gss_cons (gs_for PassesOwn.never rfl (gi_range2 (by rfl) T.z_range (ga_cons (ge_int) (ga_cons (ge_var (pv 2)) (ga_nil)))) (gt_name (pg_name (i := 4) sc_least_filling.nd rfl (Or.inl rfl)))
      (gss_cons (gs_set (i := 5) sc_least_filling.nd rfl (Or.inl rfl) (ge_ix (ge_ix (ge_var (pv 0)) (ge_ix (ge_var (pv 1)) (ge_int) (fun _ _ => rfl)) (fun _ _ => rfl)) (ge_var (pv 4)) (fun _ _ => rfl)))
      (gss_cons (gs_set (i := 6) sc_least_filling.nd rfl (Or.inl rfl) (ge_fn G_least_filling hgd (hr.mono (by omega)) (by rfl) T.D_least_filling.gl T.D_least_filling.fn.kp T.D_least_filling.bd .nil (fun _ _ => .nil) pass0 (ga_cons (ge_var (pv 0)) (ga_cons (ge_sl (ge_var (pv 1)) (gp_some (ge_int)) (gp_none)) (ga_cons (ge_bin go_sub (ge_var (pv 2)) (ge_var (pv 4))) (ga_nil))))))
      (gss_one (gs_if (GW.gb (gw_and (gb_cmp go_isnot (ge_var (pv 5)) (ge_non) (nomark _)) (gw_and (gb_cmp go_isnot (ge_var (pv 6)) (ge_non) (nomark _)) (gw_and1 (GW.gb (gw_or (gb_cmp go_is (ge_var (pv 3)) (ge_non) (nomark _)) (gw_or1 (gb_cmp go_lt (ge_bin go_add (ge_var (pv 5)) (ge_var (pv 6))) (ge_var (pv 3)) (nomark _))))))))) (gss_one (gs_set (i := 3) sc_least_filling.nd rfl (Or.inl rfl) (ge_bin go_add (ge_var (pv 5)) (ge_var (pv 6))))) (gss_nil))))))
      (gss_one (gs_ret (ge_var (pv 3)))))))
theorem x_least_by_size {R_least_filling : Rel} (T : Tx K mg F) (G_least_filling : GFn P w K mg base CX0 4 F.a_least_filling F.d_least_filling ["sizes", "slots", "parts"] R_least_filling) {R : Rel} (hm : MonoR R) (hl : ∀ ds S Q, R ds S Q → ds.length = 3)
    (hR : ∀ ds S Q, R ds S Q → ClS S → Cls S.length ds = true → b_least_by_size R_least_filling (fnE S Q) (startD N_least_by_size ds) S) : GFn P w K mg base CX0 (4 + 1) F.a_least_by_size F.d_least_by_size ["family", "state", "most"] R := by
  refine gfn_of T.D_least_by_size.fn sc_least_by_size (fun cdv A outer s H E hgd hr => ?_) hm hl hR
  exact gss_cons (gs_setLc (i := 3) (own := [("other", 9)]) (g := gName 9) rfl sc_least_by_size.nd rfl rfl (sw_true rfl rfl rfl (by decide +kernel)) (gi_range1 (by rfl) T.z_range (ga_cons (ge_ix (ge_var (pv 0)) (ge_int) (fun _ _ => rfl)) (ga_nil))) (blkOk_by (own := [("other", 9)]) (N := N_least_by_size) (sc := defScope s_least_by_size) (by decide +kernel)) (tgt_name (by decide)) (fun _ _ _ _ _ => pg_name (i := 9) sc_least_by_size.nd rfl (Or.inl rfl)) (fun _ _ _ _ _ => gt_nil) (fun _ _ _ _ _ => ge_bin go_mul (ge_lst (ga_cons (ge_non) (ga_nil))) (ge_bin go_add (ge_var (pv 2)) (ge_int))))
      (gss_cons (gs_for PassesOwn.never rfl (gi_range2 (by rfl) T.z_range (ga_cons (ge_int) (ga_cons (ge_bin go_add (ge_var (pv 2)) (ge_int)) (ga_nil)))) (gt_name (pg_name (i := 4) sc_least_by_size.nd rfl (Or.inl rfl)))
      (gss_one (gs_for PassesOwn.never rfl (gi_seq (ge_ix (ge_var (pv 0)) (ge_int) (fun _ _ => rfl))) (gt_tup rfl (gts_cons (gt_name (pg_name (i := 5) sc_least_by_size.nd rfl (Or.inl rfl))) (gts_cons (gt_name (pg_name (i := 6) sc_least_by_size.nd rfl (Or.inl rfl))) (gts_cons (gt_name (pg_name (i := 7) sc_least_by_size.nd rfl (Or.inl rfl))) (gts_nil)))))
      (gss_cons (gs_set (i := 8) sc_least_by_size.nd rfl (Or.inl rfl) (ge_if (gb_cmp go_is (ge_var (pv 7)) (ge_non) (nomark _)) (ge_non) (ge_fn G_least_filling hgd (hr.mono (by decide)) (by rfl) T.D_least_filling.gl T.D_least_filling.fn.kp T.D_least_filling.bd .nil (fun _ _ => .nil) pass0 (ga_cons (ge_var (pv 3)) (ga_cons (ge_var (pv 6)) (ga_cons (ge_bin go_sub (ge_var (pv 4)) (ge_int)) (ga_nil)))))))
      (gss_one (gs_if (GW.gb (gw_and (gb_cmp go_isnot (ge_var (pv 8)) (ge_non) (nomark _)) (gw_and1 (GW.gb (gw_or (gb_cmp go_is (ge_ix (ge_ix (ge_var (pv 3)) (ge_var (pv 5)) (fun _ _ => rfl)) (ge_var (pv 4)) (fun _ _ => rfl)) (ge_non) (nomark _)) (gw_or1 (gb_cmp go_lt (ge_bin go_add (ge_var (pv 7)) (ge_var (pv 8))) (ge_ix (ge_ix (ge_var (pv 3)) (ge_var (pv 5)) (fun _ _ => rfl)) (ge_var (pv 4)) (fun _ _ => rfl)) (nomark _)))))))) (gss_one (gs_asg (ge_bin go_add (ge_var (pv 7)) (ge_var (pv 8))) (gt_sub (ge_ix (ge_var (pv 3)) (ge_var (pv 5)) (fun _ _ => rfl)) (ge_var (pv 4))))) (gss_nil)))))))
      (gss_one (gs_ret (ge_callT gc_tuple (by rfl) T.z_tuple (by decide +kernel) (ga_cons (ge_sl (ge_ix (ge_var (pv 3)) (ge_var (pv 1)) (fun _ _ => rfl)) (gp_some (ge_int)) (gp_none)) (ga_nil))))))
theorem x__law_tape (T : Tx K mg F) {R : Rel} (hm : MonoR R) (hl : ∀ ds S Q, R ds S Q → ds.length = 1)
    (hR : ∀ ds S Q, R ds S Q → ClS S → Cls S.length ds = true → b__law_tape (fnE S Q) (startD N__law_tape ds) S) : GFn P w K mg base CX0 (0 + 1) F.a__law_tape F.d__law_tape ["_law_script"] R := by
  refine gfn_of T.D__law_tape.fn sc__law_tape (fun cdv A outer s H E hgd hr => ?_) hm hl hR
  exact gss_cons (gs_set (i := 1) sc__law_tape.nd rfl (Or.inl rfl) (ge_int))
      (gss_cons (gs_for PassesOwn.never rfl (gi_seq (ge_var (pv 0))) (gt_name (pg_name (i := 2) sc__law_tape.nd rfl (Or.inl rfl)))
      (gss_one (gs_set (i := 1) sc__law_tape.nd rfl (Or.inl rfl) (ge_bin go_mod (ge_callT gc_int (by rfl) T.z_int (by decide +kernel) (ga_cons (ge_bin go_add (ge_bin go_mul (ge_var (pv 1)) (ge_int)) (ge_callB gc_abs (by rfl) T.z_abs (by decide +kernel) (ga_cons (ge_callT gc_int (by rfl) T.z_int (by decide +kernel) (ga_cons (ge_var (pv 2)) (ga_nil))) (ga_nil)))) (ga_nil))) (ge_int)))))
      (gss_one (gs_ret (ge_lst (ga_cons (ge_callT gc_list (by rfl) T.z_list (by decide +kernel) (ga_cons (ge_var (pv 0)) (ga_nil))) (ga_cons (ge_int) (ga_cons (ge_int) (ga_cons (ge_var (pv 1)) (ga_nil)))))))))
theorem x__law_draw (T : Tx K mg F) {R : Rel} (hm : MonoR R) (hl : ∀ ds S Q, R ds S Q → ds.length = 2)
    (hR : ∀ ds S Q, R ds S Q → ClS S → Cls S.length ds = true → b__law_draw (fnE S Q) (startD N__law_draw ds) S) : GFn P w K mg base CX0 (0 + 1) F.a__law_draw F.d__law_draw ["_law_tape_here", "_law_menu"] R := by
  refine gfn_of T.D__law_draw.fn sc__law_draw (fun cdv A outer s H E hgd hr => ?_) hm hl hR
  exact gss_cons (gs_if (gb_cmp (go_eq hr.units) (ge_ix (ge_var (pv 0)) (ge_int) (fun _ _ => rfl)) (ge_int) (nomark _)) (gss_cons (gs_set (i := 3) sc__law_draw.nd rfl (Or.inl rfl) (ge_ix (ge_var (pv 0)) (ge_int) (fun _ _ => rfl)))
      (gss_cons (gs_set (i := 2) sc__law_draw.nd rfl (Or.inl rfl) (ge_int))
      (gss_cons (gs_if (gb_cmp go_lt (ge_var (pv 3)) (ge_callB gc_len (by rfl) T.z_len (by decide +kernel) (ga_cons (ge_ix (ge_var (pv 0)) (ge_int) (fun _ _ => rfl)) (ga_nil))) (nomark _)) (gss_one (gs_set (i := 2) sc__law_draw.nd rfl (Or.inl rfl) (ge_callB gc_abs (by rfl) T.z_abs (by decide +kernel) (ga_cons (ge_callT gc_int (by rfl) T.z_int (by decide +kernel) (ga_cons (ge_ix (ge_ix (ge_var (pv 0)) (ge_int) (fun _ _ => rfl)) (ge_var (pv 3)) (fun _ _ => rfl)) (ga_nil))) (ga_nil))))) (gss_cons (gs_asg (ge_bin go_mod (ge_callT gc_int (by rfl) T.z_int (by decide +kernel) (ga_cons (ge_bin go_add (ge_bin go_add (ge_bin go_mul (ge_ix (ge_var (pv 0)) (ge_int) (fun _ _ => rfl)) (ge_int)) (ge_var (pv 3))) (ge_int)) (ga_nil))) (ge_int)) (gt_sub (ge_var (pv 0)) (ge_int)))
      (gss_one (gs_set (i := 2) sc__law_draw.nd rfl (Or.inl rfl) (ge_ix (ge_var (pv 0)) (ge_int) (fun _ _ => rfl))))))
      (gss_cons (gs_asg (ge_bin go_add (ge_var (pv 3)) (ge_int)) (gt_sub (ge_var (pv 0)) (ge_int)))
      (gss_cons (gs_if (gb_cmp go_lt (ge_var (pv 2)) (ge_bin go_pow (ge_int) (ge_int)) (nomark _)) (gss_cons (gs_set (i := 2) sc__law_draw.nd rfl (Or.inl rfl) (ge_bin go_mod (ge_callT gc_int (by rfl) T.z_int (by decide +kernel) (ga_cons (ge_bin go_add (ge_bin go_add (ge_bin go_mul (ge_var (pv 2)) (ge_int)) (ge_bin go_mul (ge_var (pv 3)) (ge_int))) (ge_int)) (ga_nil))) (ge_int)))
      (gss_cons (gs_set (i := 2) sc__law_draw.nd rfl (Or.inl rfl) (ge_bin go_mod (ge_callT gc_int (by rfl) T.z_int (by decide +kernel) (ga_cons (ge_bin go_mul (ge_var (pv 2)) (ge_int)) (ga_nil))) (ge_int)))
      (gss_one (gs_ret (ge_bin go_mod (ge_callT gc_int (by rfl) T.z_int (by decide +kernel) (ga_cons (ge_var (pv 2)) (ga_nil))) (ge_callB (gc_max rfl) (by rfl) T.z_max (by decide +kernel) (ga_cons (ge_var (pv 1)) (ga_cons (ge_int) (ga_nil))))))))) (gss_nil))
      (gss_one (gs_asg (ge_var (pv 2)) (gt_sub (ge_var (pv 0)) (ge_int))))))))) (gss_nil))
      (gss_cons (gs_set (i := 2) sc__law_draw.nd rfl (Or.inl rfl) (ge_ix (ge_var (pv 0)) (ge_int) (fun _ _ => rfl)))
      (gss_cons (gs_asg (ge_bin go_div (ge_var (pv 2)) (ge_callB (gc_max rfl) (by rfl) T.z_max (by decide +kernel) (ga_cons (ge_var (pv 1)) (ga_cons (ge_int) (ga_nil))))) (gt_sub (ge_var (pv 0)) (ge_int)))
      (gss_one (gs_ret (ge_bin go_mod (ge_callT gc_int (by rfl) T.z_int (by decide +kernel) (ga_cons (ge_var (pv 2)) (ga_nil))) (ge_callB (gc_max rfl) (by rfl) T.z_max (by decide +kernel) (ga_cons (ge_var (pv 1)) (ga_cons (ge_int) (ga_nil)))))))))
theorem x__law_price {R__law_draw : Rel} (T : Tx K mg F) (G__law_draw : GFn P w K mg base CX0 1 F.a__law_draw F.d__law_draw ["_law_tape_here", "_law_menu"] R__law_draw) {R : Rel} (hm : MonoR R) (hl : ∀ ds S Q, R ds S Q → ds.length = 3)
    (hR : ∀ ds S Q, R ds S Q → ClS S → Cls S.length ds = true → b__law_price R__law_draw (fnE S Q) (startD N__law_price ds) S) : GFn P w K mg base CX0 (1 + 1) F.a__law_price F.d__law_price ["_law_tape_here", "_law_mode", "_law_low"] R := by
  refine gfn_of T.D__law_price.fn sc__law_price (fun cdv A outer s H E hgd hr => ?_) hm hl hR
  exact gss_cons (gs_if (gb_cmp (go_eq hr.units) (ge_fn G__law_draw hgd (hr.mono (by decide)) (by rfl) T.D__law_draw.gl T.D__law_draw.fn.kp T.D__law_draw.bd .nil (fun _ _ => .nil) pass0 (ga_cons (ge_var (pv 0)) (ga_cons (ge_int) (ga_nil)))) (ge_int) (nomark _)) (gss_one (gs_ret (ge_non))) (gss_nil))
      (gss_cons (gs_set (i := 3) sc__law_price.nd rfl (Or.inl rfl) (ge_fn G__law_draw hgd (hr.mono (by decide)) (by rfl) T.D__law_draw.gl T.D__law_draw.fn.kp T.D__law_draw.bd .nil (fun _ _ => .nil) pass0 (ga_cons (ge_var (pv 0)) (ga_cons (ge_ix (ge_lst (ga_cons (ge_int) (ga_cons (ge_int) (ga_cons (ge_int) (ga_cons (ge_bin go_add (ge_bin go_pow (ge_int) (ge_int)) (ge_int)) (ga_nil)))))) (ge_var (pv 1)) (fun _ _ => rfl)) (ga_nil)))))
      (gss_cons (gs_if (GW.gb (gw_and (gb_cmp (go_eq hr.units) (ge_var (pv 2)) (ge_int) (nomark _)) (gw_and1 (gb_cmp (go_eq hr.units) (ge_fn G__law_draw hgd (hr.mono (by decide)) (by rfl) T.D__law_draw.gl T.D__law_draw.fn.kp T.D__law_draw.bd .nil (fun _ _ => .nil) pass0 (ga_cons (ge_var (pv 0)) (ga_cons (ge_int) (ga_nil)))) (ge_int) (nomark _))))) (gss_one (gs_set (i := 3) sc__law_price.nd rfl (Or.inl rfl) (ge_un gu_neg (ge_var (pv 3))))) (gss_nil))
      (gss_one (gs_ret (ge_var (pv 3))))))
theorem x__law_family {R__law_draw : Rel} {R__law_price : Rel} (T : Tx K mg F) (G__law_draw : GFn P w K mg base CX0 1 F.a__law_draw F.d__law_draw ["_law_tape_here", "_law_menu"] R__law_draw) (G__law_price : GFn P w K mg base CX0 2 F.a__law_price F.d__law_price ["_law_tape_here", "_law_mode", "_law_low"] R__law_price) {R : Rel} (hm : MonoR R) (hl : ∀ ds S Q, R ds S Q → ds.length = 4)
    (hR : ∀ ds S Q, R ds S Q → ClS S → Cls S.length ds = true → b__law_family R__law_draw R__law_price (fnE S Q) (startD N__law_family ds) S) : GFn P w K mg base CX0 (2 + 1) F.a__law_family F.d__law_family ["_law_tape_here", "_law_states", "_law_variants", "_law_low"] R := by
  refine gfn_of T.D__law_family.fn sc__law_family (fun cdv A outer s H E hgd hr => ?_) hm hl hR
  exact gss_cons (gs_set (i := 4) sc__law_family.nd rfl (Or.inl rfl) (ge_bin go_add (ge_int) (ge_fn G__law_draw hgd (hr.mono (by decide)) (by rfl) T.D__law_draw.gl T.D__law_draw.fn.kp T.D__law_draw.bd .nil (fun _ _ => .nil) pass0 (ga_cons (ge_var (pv 0)) (ga_cons (ge_var (pv 1)) (ga_nil))))))
      (gss_cons (gs_set (i := 5) sc__law_family.nd rfl (Or.inl rfl) (ge_fn G__law_draw hgd (hr.mono (by decide)) (by rfl) T.D__law_draw.gl T.D__law_draw.fn.kp T.D__law_draw.bd .nil (fun _ _ => .nil) pass0 (ga_cons (ge_var (pv 0)) (ga_cons (ge_int) (ga_nil)))))
      (gss_cons (gs_set (i := 6) sc__law_family.nd rfl (Or.inl rfl) (ge_fn G__law_draw hgd (hr.mono (by decide)) (by rfl) T.D__law_draw.gl T.D__law_draw.fn.kp T.D__law_draw.bd .nil (fun _ _ => .nil) pass0 (ga_cons (ge_var (pv 0)) (ga_cons (ge_int) (ga_nil)))))
      (gss_cons (gs_set (i := 7) sc__law_family.nd rfl (Or.inl rfl) (ge_lst (ga_nil)))
      (gss_cons (gs_for PassesOwn.never rfl (gi_range1 (by rfl) T.z_range (ga_cons (ge_fn G__law_draw hgd (hr.mono (by decide)) (by rfl) T.D__law_draw.gl T.D__law_draw.fn.kp T.D__law_draw.bd .nil (fun _ _ => .nil) pass0 (ga_cons (ge_var (pv 0)) (ga_cons (ge_bin go_add (ge_var (pv 2)) (ge_int)) (ga_nil)))) (ga_nil))) (gt_name (pg_name (i := 8) sc__law_family.nd rfl (Or.inl rfl)))
      (gss_cons (gs_set (i := 10) sc__law_family.nd rfl (Or.inl rfl) (ge_fn G__law_draw hgd (hr.mono (by decide)) (by rfl) T.D__law_draw.gl T.D__law_draw.fn.kp T.D__law_draw.bd .nil (fun _ _ => .nil) pass0 (ga_cons (ge_var (pv 0)) (ga_cons (ge_var (pv 4)) (ga_nil)))))
      (gss_cons (gs_set (i := 11) sc__law_family.nd rfl (Or.inl rfl) (ge_lst (ga_nil)))
      (gss_cons (gs_for PassesOwn.never rfl (gi_range1 (by rfl) T.z_range (ga_cons (ge_ix (ge_lst (ga_cons (ge_int) (ga_cons (ge_int) (ga_cons (ge_int) (ga_cons (ge_int) (ga_cons (ge_int) (ga_cons (ge_int) (ga_nil)))))))) (ge_fn G__law_draw hgd (hr.mono (by decide)) (by rfl) T.D__law_draw.gl T.D__law_draw.fn.kp T.D__law_draw.bd .nil (fun _ _ => .nil) pass0 (ga_cons (ge_var (pv 0)) (ga_cons (ge_int) (ga_nil)))) (fun _ _ => rfl)) (ga_nil))) (gt_name (pg_name (i := 12) sc__law_family.nd rfl (Or.inl rfl)))
      (gss_cons (gs_set (i := 15) sc__law_family.nd rfl (Or.inl rfl) (ge_fn G__law_draw hgd (hr.mono (by decide)) (by rfl) T.D__law_draw.gl T.D__law_draw.fn.kp T.D__law_draw.bd .nil (fun _ _ => .nil) pass0 (ga_cons (ge_var (pv 0)) (ga_cons (ge_var (pv 4)) (ga_nil)))))
      (gss_cons (gs_if (gb_cmp (go_eq hr.units) (ge_var (pv 5)) (ge_int) (nomark _)) (gss_one (gs_set (i := 15) sc__law_family.nd rfl (Or.inl rfl) (ge_bin go_add (ge_bin go_add (ge_var (pv 10)) (ge_int)) (ge_var (pv 15))))) (gss_nil))
      (gss_cons (gs_if (gb_cmp (go_eq hr.units) (ge_var (pv 5)) (ge_int) (nomark _)) (gss_one (gs_set (i := 15) sc__law_family.nd rfl (Or.inl rfl) (ge_bin go_sub (ge_bin go_sub (ge_var (pv 10)) (ge_int)) (ge_var (pv 15))))) (gss_nil))
      (gss_one (gs_if (GW.gb (gw_and (gb_cmp go_le (ge_int) (ge_var (pv 15)) (nomark _)) (gw_and1 (gb_cmp go_lt (ge_var (pv 15)) (ge_var (pv 4)) (nomark _))))) (gss_one (gs_expr (ge_meth PySem.F.slot_list_append PySem.F.type_list_append gm_append (ge_var (pv 11)) (ga_cons (ge_var (pv 15)) (ga_nil))))) (gss_nil)))))))
      (gss_cons (gs_set (i := 13) sc__law_family.nd rfl (Or.inl rfl) (ge_tup (ga_cons (ge_var (pv 10)) (ga_cons (ge_callT gc_tuple (by rfl) T.z_tuple (by decide +kernel) (ga_cons (ge_var (pv 11)) (ga_nil))) (ga_cons (ge_fn G__law_price hgd (hr.mono (by decide)) (by rfl) T.D__law_price.gl T.D__law_price.fn.kp T.D__law_price.bd .nil (fun _ _ => .nil) pass0 (ga_cons (ge_var (pv 0)) (ga_cons (ge_var (pv 6)) (ga_cons (ge_var (pv 3)) (ga_nil))))) (ga_nil))))))
      (gss_cons (gs_if (GW.gb (gw_and (gb_truth (ge_var (pv 7))) (gw_and1 (gb_cmp (go_eq hr.units) (ge_fn G__law_draw hgd (hr.mono (by decide)) (by rfl) T.D__law_draw.gl T.D__law_draw.fn.kp T.D__law_draw.bd .nil (fun _ _ => .nil) pass0 (ga_cons (ge_var (pv 0)) (ga_cons (ge_int) (ga_nil)))) (ge_int) (nomark _))))) (gss_one (gs_set (i := 13) sc__law_family.nd rfl (Or.inl rfl) (ge_ix (ge_var (pv 7)) (ge_fn G__law_draw hgd (hr.mono (by decide)) (by rfl) T.D__law_draw.gl T.D__law_draw.fn.kp T.D__law_draw.bd .nil (fun _ _ => .nil) pass0 (ga_cons (ge_var (pv 0)) (ga_cons (ge_callB gc_len (by rfl) T.z_len (by decide +kernel) (ga_cons (ge_var (pv 7)) (ga_nil))) (ga_nil)))) (fun _ _ => rfl)))) (gss_nil))
      (gss_one (gs_expr (ge_meth PySem.F.slot_list_append PySem.F.type_list_append gm_append (ge_var (pv 7)) (ga_cons (ge_var (pv 13)) (ga_nil)))))))))))
      (gss_cons (gs_if (gb_cmp (go_eq hr.units) (ge_fn G__law_draw hgd (hr.mono (by decide)) (by rfl) T.D__law_draw.gl T.D__law_draw.fn.kp T.D__law_draw.bd .nil (fun _ _ => .nil) pass0 (ga_cons (ge_var (pv 0)) (ga_cons (ge_int) (ga_nil)))) (ge_int) (nomark _)) (gss_one (gs_for PassesOwn.never rfl (gi_range1 (by rfl) T.z_range (ga_cons (ge_var (pv 4)) (ga_nil))) (gt_name (pg_name (i := 14) sc__law_family.nd rfl (Or.inl rfl)))
      (gss_one (gs_expr (ge_meth PySem.F.slot_list_insert PySem.F.type_list_insert gm_insert (ge_var (pv 7)) (ga_cons (ge_fn G__law_draw hgd (hr.mono (by decide)) (by rfl) T.D__law_draw.gl T.D__law_draw.fn.kp T.D__law_draw.bd .nil (fun _ _ => .nil) pass0 (ga_cons (ge_var (pv 0)) (ga_cons (ge_bin go_add (ge_callB gc_len (by rfl) T.z_len (by decide +kernel) (ga_cons (ge_var (pv 7)) (ga_nil))) (ge_int)) (ga_nil)))) (ga_cons (ge_tup (ga_cons (ge_var (pv 14)) (ga_cons (ge_tup (ga_nil)) (ga_cons (ge_fn G__law_price hgd (hr.mono (by decide)) (by rfl) T.D__law_price.gl T.D__law_price.fn.kp T.D__law_price.bd .nil (fun _ _ => .nil) pass0 (ga_cons (ge_var (pv 0)) (ga_cons (ge_var (pv 6)) (ga_cons (ge_var (pv 3)) (ga_nil))))) (ga_nil))))) (ga_nil)))))))) (gss_nil))
      (gss_cons (gs_setLc (i := 9) (own := [("_law_state", 14)]) (g := gName 14) rfl sc__law_family.nd rfl rfl (sw_true rfl rfl rfl (by decide +kernel)) (gi_range1 (by rfl) T.z_range (ga_cons (ge_var (pv 4)) (ga_nil))) (blkOk_by (own := [("_law_state", 14)]) (N := N__law_family) (sc := defScope s__law_family) (by decide +kernel)) (tgt_name (by decide)) (fun _ _ _ _ _ => pg_name (i := 14) sc__law_family.nd rfl (Or.inl rfl)) (fun _ _ _ _ _ => gt_one (gb_cmp go_gt (ge_fn G__law_draw hgd (hr.mono (by decide)) (by rfl) T.D__law_draw.gl T.D__law_draw.fn.kp T.D__law_draw.bd .nil (fun _ _ => .nil) pass0 (ga_cons (ge_var (pv 0)) (ga_cons (ge_int) (ga_nil)))) (ge_int) (nomark _))) (fun _ _ _ _ _ => ge_var (pv 14)))
      (gss_cons (gs_if (GW.gb (gw_and (gb_not (gb_truth (ge_var (pv 9)))) (gw_and1 (gb_cmp go_gt (ge_fn G__law_draw hgd (hr.mono (by decide)) (by rfl) T.D__law_draw.gl T.D__law_draw.fn.kp T.D__law_draw.bd .nil (fun _ _ => .nil) pass0 (ga_cons (ge_var (pv 0)) (ga_cons (ge_int) (ga_nil)))) (ge_int) (nomark _))))) (gss_one (gs_set (i := 9) sc__law_family.nd rfl (Or.inl rfl) (ge_lst (ga_cons (ge_fn G__law_draw hgd (hr.mono (by decide)) (by rfl) T.D__law_draw.gl T.D__law_draw.fn.kp T.D__law_draw.bd .nil (fun _ _ => .nil) pass0 (ga_cons (ge_var (pv 0)) (ga_cons (ge_var (pv 4)) (ga_nil)))) (ga_nil))))) (gss_nil))
      (gss_one (gs_ret (ge_tup (ga_cons (ge_var (pv 4)) (ga_cons (ge_callT gc_tuple (by rfl) T.z_tuple (by decide +kernel) (ga_cons (ge_var (pv 9)) (ga_nil))) (ga_cons (ge_callT gc_tuple (by rfl) T.z_tuple (by decide +kernel) (ga_cons (ge_var (pv 7)) (ga_nil))) (ga_nil))))))))))))))
theorem x__law_size (T : Tx K mg F) {R : Rel} (hm : MonoR R) (hl : ∀ ds S Q, R ds S Q → ds.length = 2)
    (hR : ∀ ds S Q, R ds S Q → ClS S → Cls S.length ds = true → b__law_size (fnE S Q) (startD N__law_size ds) S) : GFn P w K mg base CX0 (0 + 1) F.a__law_size F.d__law_size ["_law_variant", "_law_sizes_here"] R := by
  refine gfn_of T.D__law_size.fn sc__law_size (fun cdv A outer s H E hgd hr => ?_) hm hl hR
  exact gss_cons (gs_if (gb_cmp go_is (ge_ix (ge_var (pv 0)) (ge_int) (fun _ _ => rfl)) (ge_non) (nomark _)) (gss_one (gs_ret (ge_non))) (gss_nil))
      (gss_cons (gs_set (i := 2) sc__law_size.nd rfl (Or.inl rfl) (ge_int))
      (gss_cons (gs_for PassesOwn.never rfl (gi_seq (ge_ix (ge_var (pv 0)) (ge_int) (fun _ _ => rfl))) (gt_name (pg_name (i := 3) sc__law_size.nd rfl (Or.inl rfl)))
      (gss_cons (gs_if (gb_cmp go_is (ge_ix (ge_var (pv 1)) (ge_var (pv 3)) (fun _ _ => rfl)) (ge_non) (nomark _)) (gss_one (gs_ret (ge_non))) (gss_nil))
      (gss_one (gs_set (i := 2) sc__law_size.nd rfl (Or.inl rfl) (ge_bin go_add (ge_var (pv 2)) (ge_ix (ge_var (pv 1)) (ge_var (pv 3)) (fun _ _ => rfl)))))))
      (gss_one (gs_ret (ge_var (pv 2))))))
theorem x__law_sizes {R__law_size : Rel} (T : Tx K mg F) (G__law_size : GFn P w K mg base CX0 1 F.a__law_size F.d__law_size ["_law_variant", "_law_sizes_here"] R__law_size) {R : Rel} (hm : MonoR R) (hl : ∀ ds S Q, R ds S Q → ds.length = 1)
    (hR : ∀ ds S Q, R ds S Q → ClS S → Cls S.length ds = true → b__law_sizes R__law_size (fnE S Q) (startD N__law_sizes ds) S) : GFn P w K mg base CX0 (1 + 1) F.a__law_sizes F.d__law_sizes ["_law_family_here"] R := by
  refine gfn_of T.D__law_sizes.fn sc__law_sizes (fun cdv A outer s H E hgd hr => ?_) hm hl hR
  exact gss_cons (gs_setLc (i := 1) (own := [("_law_state", 6)]) (g := gName 6) rfl sc__law_sizes.nd rfl rfl (sw_true rfl rfl rfl (by decide +kernel)) (gi_range1 (by rfl) T.z_range (ga_cons (ge_ix (ge_var (pv 0)) (ge_int) (fun _ _ => rfl)) (ga_nil))) (blkOk_by (own := [("_law_state", 6)]) (N := N__law_sizes) (sc := defScope s__law_sizes) (by decide +kernel)) (tgt_name (by decide)) (fun _ _ _ _ _ => pg_name (i := 6) sc__law_sizes.nd rfl (Or.inl rfl)) (fun _ _ _ _ _ => gt_nil) (fun _ _ _ _ _ => ge_non))
      (gss_cons (gs_for PassesOwn.never rfl (gi_range1 (by rfl) T.z_range (ga_cons (ge_bin go_add (ge_ix (ge_var (pv 0)) (ge_int) (fun _ _ => rfl)) (ge_int)) (ga_nil))) (gt_name (pg_name (i := 2) sc__law_sizes.nd rfl (Or.inl rfl)))
      (gss_cons (gs_set (i := 3) sc__law_sizes.nd rfl (Or.inl rfl) (ge_bl))
      (gss_cons (gs_for PassesOwn.never rfl (gi_seq (ge_ix (ge_var (pv 0)) (ge_int) (fun _ _ => rfl))) (gt_name (pg_name (i := 4) sc__law_sizes.nd rfl (Or.inl rfl)))
      (gss_cons (gs_set (i := 5) sc__law_sizes.nd rfl (Or.inl rfl) (ge_fn G__law_size hgd (hr.mono (by decide)) (by rfl) T.D__law_size.gl T.D__law_size.fn.kp T.D__law_size.bd .nil (fun _ _ => .nil) pass0 (ga_cons (ge_var (pv 4)) (ga_cons (ge_var (pv 1)) (ga_nil)))))
      (gss_one (gs_if (GW.gb (gw_and (gb_cmp go_isnot (ge_var (pv 5)) (ge_non) (nomark _)) (gw_and1 (GW.gb (gw_or (gb_cmp go_is (ge_ix (ge_var (pv 1)) (ge_ix (ge_var (pv 4)) (ge_int) (fun _ _ => rfl)) (fun _ _ => rfl)) (ge_non) (nomark _)) (gw_or1 (gb_cmp go_lt (ge_var (pv 5)) (ge_ix (ge_var (pv 1)) (ge_ix (ge_var (pv 4)) (ge_int) (fun _ _ => rfl)) (fun _ _ => rfl)) (nomark _)))))))) (gss_cons (gs_asg (ge_var (pv 5)) (gt_sub (ge_var (pv 1)) (ge_ix (ge_var (pv 4)) (ge_int) (fun _ _ => rfl))))
      (gss_one (gs_set (i := 3) sc__law_sizes.nd rfl (Or.inl rfl) (ge_bl)))) (gss_nil)))))
      (gss_one (gs_if (gb_not (gb_truth (ge_var (pv 3)))) (gss_one (gs_brk)) (gss_nil))))))
      (gss_one (gs_ret (ge_var (pv 1)))))
theorem x__law_priced (T : Tx K mg F) {R : Rel} (hm : MonoR R) (hl : ∀ ds S Q, R ds S Q → ds.length = 2)
    (hR : ∀ ds S Q, R ds S Q → ClS S → Cls S.length ds = true → b__law_priced (fnE S Q) (startD N__law_priced ds) S) : GFn P w K mg base CX0 (0 + 1) F.a__law_priced F.d__law_priced ["_law_family_here", "_law_tree_here"] R := by
  refine gfn_of T.D__law_priced.fn sc__law_priced (fun cdv A outer s H E hgd hr => ?_) hm hl hR
  exact gss_one (gs_ret (ge_callB (gc_sum rfl) (by rfl) T.z_sum (by decide +kernel) (ga_cons (ge_lc (own := [("_law_number", 2)]) (g := gName 2) rfl sc__law_priced.nd (gi_seq (ge_var (pv 1))) (blkOk_by (own := [("_law_number", 2)]) (N := N__law_priced) (sc := defScope s__law_priced) (by decide +kernel)) (tgt_name (by decide)) (fun _ _ _ _ _ => pg_name (i := 2) sc__law_priced.nd rfl (Or.inl rfl)) (fun _ _ _ _ _ => gt_nil) (fun _ _ _ _ _ => ge_ix (ge_ix (ge_ix (ge_var (pv 0)) (ge_int) (fun _ _ => rfl)) (ge_var (pv 2)) (fun _ _ => rfl)) (ge_int) (fun _ _ => rfl))) (ga_nil))))
theorem x__law_tree {R__law_size : Rel} {R__law_draw : Rel} (T : Tx K mg F) (G__law_size : GFn P w K mg base CX0 1 F.a__law_size F.d__law_size ["_law_variant", "_law_sizes_here"] R__law_size) (G__law_draw : GFn P w K mg base CX0 1 F.a__law_draw F.d__law_draw ["_law_tape_here", "_law_menu"] R__law_draw) {R : Rel} (hm : MonoR R) (hl : ∀ ds S Q, R ds S Q → ds.length = 5)
    (hR : ∀ ds S Q, R ds S Q → ClS S → Cls S.length ds = true → b__law_tree R__law_size R__law_draw (fnE S Q) (startD N__law_tree ds) S) : GFn P w K mg base CX0 (1 + 1) F.a__law_tree F.d__law_tree ["_law_tape_here", "_law_family_here", "_law_sizes_here", "_law_state", "_law_room"] R := by
  refine gfn_of T.D__law_tree.fn sc__law_tree (fun cdv A outer s H E hgd hr => ?_) hm hl hR
  exact gss_cons (gs_set (i := 5) sc__law_tree.nd rfl (Or.inl rfl) (ge_lst (ga_cons (ge_var (pv 3)) (ga_nil))))
      (gss_cons (gs_set (i := 6) sc__law_tree.nd rfl (Or.inl rfl) (ge_ix (ge_var (pv 2)) (ge_var (pv 3)) (fun _ _ => rfl)))
      (gss_cons (gs_set (i := 7) sc__law_tree.nd rfl (Or.inl rfl) (ge_lst (ga_nil)))
      (gss_cons (gs_for PassesOwn.never rfl (gi_range1 (by rfl) T.z_range (ga_cons (ge_callB (gc_max rfl) (by rfl) T.z_max (by decide +kernel) (ga_cons (ge_var (pv 4)) (ga_cons (ge_ix (ge_var (pv 2)) (ge_var (pv 3)) (fun _ _ => rfl)) (ga_nil)))) (ga_nil))) (gt_name (pg_name (i := 8) sc__law_tree.nd rfl (Or.inl rfl)))
      (gss_cons (gs_if (gb_not (gb_truth (ge_var (pv 5)))) (gss_one (gs_brk)) (gss_nil))
      (gss_cons (gs_set (i := 9) sc__law_tree.nd rfl (Or.inl rfl) (ge_meth0 PySem.F.slot_list_pop PySem.F.type_list_pop gm_pop (ge_var (pv 5))))
      (gss_cons (gs_set (i := 6) sc__law_tree.nd rfl (Or.inl rfl) (ge_bin go_sub (ge_var (pv 6)) (ge_ix (ge_var (pv 2)) (ge_var (pv 9)) (fun _ _ => rfl))))
      (gss_cons (gs_set (i := 10) sc__law_tree.nd rfl (Or.inl rfl) (ge_lst (ga_nil)))
      (gss_cons (gs_for PassesOwn.never rfl (gi_range1 (by rfl) T.z_range (ga_cons (ge_callB gc_len (by rfl) T.z_len (by decide +kernel) (ga_cons (ge_ix (ge_var (pv 1)) (ge_int) (fun _ _ => rfl)) (ga_nil))) (ga_nil))) (gt_name (pg_name (i := 11) sc__law_tree.nd rfl (Or.inl rfl)))
      (gss_cons (gs_set (i := 13) sc__law_tree.nd rfl (Or.inl rfl) (ge_fn G__law_size hgd (hr.mono (by decide)) (by rfl) T.D__law_size.gl T.D__law_size.fn.kp T.D__law_size.bd .nil (fun _ _ => .nil) pass0 (ga_cons (ge_ix (ge_ix (ge_var (pv 1)) (ge_int) (fun _ _ => rfl)) (ge_var (pv 11)) (fun _ _ => rfl)) (ga_cons (ge_var (pv 2)) (ga_nil)))))
      (gss_one (gs_if (GW.gb (gw_and (gb_cmp (go_eq hr.units) (ge_ix (ge_ix (ge_ix (ge_var (pv 1)) (ge_int) (fun _ _ => rfl)) (ge_var (pv 11)) (fun _ _ => rfl)) (ge_int) (fun _ _ => rfl)) (ge_var (pv 9)) (nomark _)) (gw_and1 (gb_cmp go_isnot (ge_var (pv 13)) (ge_non) (nomark _))))) (gss_one (gs_if (GW.gb (gw_or (gb_cmp (go_eq hr.units) (ge_var (pv 13)) (ge_ix (ge_var (pv 2)) (ge_var (pv 9)) (fun _ _ => rfl)) (nomark _)) (gw_or1 (gb_cmp go_le (ge_bin go_add (ge_bin go_add (ge_callB gc_len (by rfl) T.z_len (by decide +kernel) (ga_cons (ge_var (pv 7)) (ga_nil))) (ge_var (pv 6))) (ge_var (pv 13))) (ge_var (pv 4)) (nomark _))))) (gss_one (gs_expr (ge_meth PySem.F.slot_list_append PySem.F.type_list_append gm_append (ge_var (pv 10)) (ga_cons (ge_var (pv 11)) (ga_nil))))) (gss_nil))) (gss_nil)))))
      (gss_cons (gs_set (i := 11) sc__law_tree.nd rfl (Or.inl rfl) (ge_ix (ge_var (pv 10)) (ge_fn G__law_draw hgd (hr.mono (by decide)) (by rfl) T.D__law_draw.gl T.D__law_draw.fn.kp T.D__law_draw.bd .nil (fun _ _ => .nil) pass0 (ga_cons (ge_var (pv 0)) (ga_cons (ge_callB gc_len (by rfl) T.z_len (by decide +kernel) (ga_cons (ge_var (pv 10)) (ga_nil))) (ga_nil)))) (fun _ _ => rfl)))
      (gss_cons (gs_expr (ge_meth PySem.F.slot_list_append PySem.F.type_list_append gm_append (ge_var (pv 7)) (ga_cons (ge_var (pv 11)) (ga_nil))))
      (gss_cons (gs_set (i := 6) sc__law_tree.nd rfl (Or.inl rfl) (ge_bin go_sub (ge_bin go_add (ge_var (pv 6)) (ge_fn G__law_size hgd (hr.mono (by decide)) (by rfl) T.D__law_size.gl T.D__law_size.fn.kp T.D__law_size.bd .nil (fun _ _ => .nil) pass0 (ga_cons (ge_ix (ge_ix (ge_var (pv 1)) (ge_int) (fun _ _ => rfl)) (ge_var (pv 11)) (fun _ _ => rfl)) (ga_cons (ge_var (pv 2)) (ga_nil))))) (ge_int)))
      (gss_one (gs_for PassesOwn.never rfl (gi_rev (by rfl) T.z_reversed (ge_ix (ge_ix (ge_ix (ge_var (pv 1)) (ge_int) (fun _ _ => rfl)) (ge_var (pv 11)) (fun _ _ => rfl)) (ge_int) (fun _ _ => rfl))) (gt_name (pg_name (i := 12) sc__law_tree.nd rfl (Or.inl rfl)))
      (gss_one (gs_expr (ge_meth PySem.F.slot_list_append PySem.F.type_list_append gm_append (ge_var (pv 5)) (ga_cons (ge_var (pv 12)) (ga_nil))))))))))))))))
      (gss_one (gs_ret (ge_callT gc_tuple (by rfl) T.z_tuple (by decide +kernel) (ga_cons (ge_var (pv 7)) (ga_nil))))))))
theorem x__law_ways {R__law_ways : Rel} {k : Nat} (hk : 0 ≤ k) (T : Tx K mg F) (G__law_ways : GFn P w K mg base CX0 k F.a__law_ways F.d__law_ways ["_law_counts_here", "_law_slots", "_law_parts"] R__law_ways) {R : Rel} (hm : MonoR R) (hl : ∀ ds S Q, R ds S Q → ds.length = 3)
    (hR : ∀ ds S Q, R ds S Q → ClS S → Cls S.length ds = true → b__law_ways R__law_ways (fnE S Q) (startD N__law_ways ds) S) : GFn P w K mg base CX0 (k + 1) F.a__law_ways F.d__law_ways ["_law_counts_here", "_law_slots", "_law_parts"] R := by
  refine gfn_of T.D__law_ways.fn sc__law_ways (fun cdv A outer s H E hgd hr => ?_) hm hl hR
  exact gss_cons (gs_if (gb_not (gb_truth (ge_var (pv 1)))) (gss_one (gs_ret (ge_callT gc_int (by rfl) T.z_int (by decide +kernel) (ga_cons (ge_cmp (go_eq hr.units) (ge_var (pv 2)) (ge_int) (nomark _)) (ga_nil))))) (gss_nil))
      (gss_cons (gs_if (gb_cmp (go_eq hr.units) (ge_callB gc_len (by rfl) T.z_len (by decide +kernel) (ga_cons (ge_var (pv 1)) (ga_nil))) (ge_int) (nomark _)) (gss_one (gs_ret (ge_ix (ge_ix (ge_var (pv 0)) (ge_var (pv 2)) (fun _ _ => rfl)) (ge_ix (ge_var (pv 1)) (ge_int) (fun _ _ => rfl)) (fun _ _ => rfl)))) (gss_nil))
      (gss_cons (gs_set (i := 3) sc__law_ways.nd rfl (Or.inl rfl) (ge_int))
      (gss_cons (gs_for PassesOwn.never rfl (gi_range2 (by rfl) T.z_range (ga_cons (ge_int) (ga_cons (ge_var (pv 2)) (ga_nil)))) (gt_name (pg_name (i := 4) sc__law_ways.nd rfl (Or.inl rfl)))
      (gss_cons (gs_set (i := 5) sc__law_ways.nd rfl (Or.inl rfl) (ge_ix (ge_ix (ge_var (pv 0)) (ge_var (pv 4)) (fun _ _ => rfl)) (ge_ix (ge_var (pv 1)) (ge_int) (fun _ _ => rfl)) (fun _ _ => rfl)))
      (gss_one (gs_if (gb_cmp go_gt (ge_var (pv 5)) (ge_int) (nomark _)) (gss_one (gs_set (i := 3) sc__law_ways.nd rfl (Or.inl rfl) (ge_bin go_add (ge_var (pv 3)) (ge_bin go_mul (ge_var (pv 5)) (ge_fn G__law_ways hgd (hr.mono (by omega)) (by rfl) T.D__law_ways.gl T.D__law_ways.fn.kp T.D__law_ways.bd .nil (fun _ _ => .nil) pass0 (ga_cons (ge_var (pv 0)) (ga_cons (ge_sl (ge_var (pv 1)) (gp_some (ge_int)) (gp_none)) (ga_cons (ge_bin go_sub (ge_var (pv 2)) (ge_var (pv 4))) (ga_nil))))))))) (gss_nil)))))
      (gss_one (gs_ret (ge_var (pv 3)))))))
theorem x__law_counts {R__law_ways : Rel} (T : Tx K mg F) (G__law_ways : GFn P w K mg base CX0 4 F.a__law_ways F.d__law_ways ["_law_counts_here", "_law_slots", "_law_parts"] R__law_ways) {R : Rel} (hm : MonoR R) (hl : ∀ ds S Q, R ds S Q → ds.length = 2)
    (hR : ∀ ds S Q, R ds S Q → ClS S → Cls S.length ds = true → b__law_counts R__law_ways (fnE S Q) (startD N__law_counts ds) S) : GFn P w K mg base CX0 (4 + 1) F.a__law_counts F.d__law_counts ["_law_family_here", "_law_top"] R := by
  refine gfn_of T.D__law_counts.fn sc__law_counts (fun cdv A outer s H E hgd hr => ?_) hm hl hR
  exact gss_cons (gs_set (i := 2) sc__law_counts.nd rfl (Or.inl rfl) (ge_lst (ga_cons (ge_lc (own := [("_law_state", 6)]) (g := gName 6) rfl sc__law_counts.nd (gi_range1 (by rfl) T.z_range (ga_cons (ge_ix (ge_var (pv 0)) (ge_int) (fun _ _ => rfl)) (ga_nil))) (blkOk_by (own := [("_law_state", 6)]) (N := N__law_counts) (sc := defScope s__law_counts) (by decide +kernel)) (tgt_name (by decide)) (fun _ _ _ _ _ => pg_name (i := 6) sc__law_counts.nd rfl (Or.inl rfl)) (fun _ _ _ _ _ => gt_nil) (fun _ _ _ _ _ => ge_int)) (ga_nil))))
      (gss_cons (gs_for PassesOwn.never rfl (gi_range2 (by rfl) T.z_range (ga_cons (ge_int) (ga_cons (ge_bin go_add (ge_var (pv 1)) (ge_int)) (ga_nil)))) (gt_name (pg_name (i := 3) sc__law_counts.nd rfl (Or.inl rfl)))
      (gss_cons (gs_setLc (i := 4) (own := [("_law_state", 6)]) (g := gName 6) rfl sc__law_counts.nd rfl rfl (sw_true rfl rfl rfl (by decide +kernel)) (gi_range1 (by rfl) T.z_range (ga_cons (ge_ix (ge_var (pv 0)) (ge_int) (fun _ _ => rfl)) (ga_nil))) (blkOk_by (own := [("_law_state", 6)]) (N := N__law_counts) (sc := defScope s__law_counts) (by decide +kernel)) (tgt_name (by decide)) (fun _ _ _ _ _ => pg_name (i := 6) sc__law_counts.nd rfl (Or.inl rfl)) (fun _ _ _ _ _ => gt_nil) (fun _ _ _ _ _ => ge_int))
      (gss_cons (gs_for PassesOwn.never rfl (gi_seq (ge_ix (ge_var (pv 0)) (ge_int) (fun _ _ => rfl))) (gt_name (pg_name (i := 5) sc__law_counts.nd rfl (Or.inl rfl)))
      (gss_one (gs_if (gb_cmp go_isnot (ge_ix (ge_var (pv 5)) (ge_int) (fun _ _ => rfl)) (ge_non) (nomark _)) (gss_one (gs_asg (ge_bin go_add (ge_ix (ge_var (pv 4)) (ge_ix (ge_var (pv 5)) (ge_int) (fun _ _ => rfl)) (fun _ _ => rfl)) (ge_fn G__law_ways hgd (hr.mono (by decide)) (by rfl) T.D__law_ways.gl T.D__law_ways.fn.kp T.D__law_ways.bd .nil (fun _ _ => .nil) pass0 (ga_cons (ge_var (pv 2)) (ga_cons (ge_ix (ge_var (pv 5)) (ge_int) (fun _ _ => rfl)) (ga_cons (ge_bin go_sub (ge_var (pv 3)) (ge_int)) (ga_nil)))))) (gt_sub (ge_var (pv 4)) (ge_ix (ge_var (pv 5)) (ge_int) (fun _ _ => rfl))))) (gss_nil))))
      (gss_one (gs_expr (ge_meth PySem.F.slot_list_append PySem.F.type_list_append gm_append (ge_var (pv 2)) (ga_cons (ge_var (pv 4)) (ga_nil))))))))
      (gss_one (gs_ret (ge_var (pv 2)))))
theorem x__law_reach (T : Tx K mg F) {R : Rel} (hm : MonoR R) (hl : ∀ ds S Q, R ds S Q → ds.length = 2)
    (hR : ∀ ds S Q, R ds S Q → ClS S → Cls S.length ds = true → b__law_reach (fnE S Q) (startD N__law_reach ds) S) : GFn P w K mg base CX0 (0 + 1) F.a__law_reach F.d__law_reach ["_law_counts_here", "_law_limit"] R := by
  refine gfn_of T.D__law_reach.fn sc__law_reach (fun cdv A outer s H E hgd hr => ?_) hm hl hR
  exact gss_cons (gs_set (i := 2) sc__law_reach.nd rfl (Or.inl rfl) (ge_int))
      (gss_cons (gs_for PassesOwn.never rfl (gi_range2 (by rfl) T.z_range (ga_cons (ge_int) (ga_cons (ge_callB gc_len (by rfl) T.z_len (by decide +kernel) (ga_cons (ge_var (pv 0)) (ga_nil))) (ga_nil)))) (gt_name (pg_name (i := 3) sc__law_reach.nd rfl (Or.inl rfl)))
      (gss_cons (gs_set (i := 2) sc__law_reach.nd rfl (Or.inl rfl) (ge_bin go_add (ge_var (pv 2)) (ge_callB (gc_sum rfl) (by rfl) T.z_sum (by decide +kernel) (ga_cons (ge_ix (ge_var (pv 0)) (ge_var (pv 3)) (fun _ _ => rfl)) (ga_nil)))))
      (gss_one (gs_if (gb_cmp go_gt (ge_var (pv 2)) (ge_var (pv 1)) (nomark _)) (gss_one (gs_ret (ge_bin go_sub (ge_var (pv 3)) (ge_int)))) (gss_nil)))))
      (gss_one (gs_ret (ge_bin go_sub (ge_callB gc_len (by rfl) T.z_len (by decide +kernel) (ga_cons (ge_var (pv 0)) (ga_nil))) (ge_int)))))
theorem x__law_fillings {R__law_fillings : Rel} {k : Nat} (hk : 0 ≤ k) (T : Tx K mg F) (G__law_fillings : GFn P w K mg base CX0 k F.a__law_fillings F.d__law_fillings ["_law_rows", "_law_slots", "_law_parts"] R__law_fillings) {R : Rel} (hm : MonoR R) (hl : ∀ ds S Q, R ds S Q → ds.length = 3)
    (hR : ∀ ds S Q, R ds S Q → ClS S → Cls S.length ds = true → b__law_fillings R__law_fillings (fnE S Q) (startD N__law_fillings ds) S) : GFn P w K mg base CX0 (k + 1) F.a__law_fillings F.d__law_fillings ["_law_rows", "_law_slots", "_law_parts"] R := by
  refine gfn_of T.D__law_fillings.fn sc__law_fillings (fun cdv A outer s H E hgd hr => ?_) hm hl hR
  exact gss_cons (gs_if (gb_not (gb_truth (ge_var (pv 1)))) (gss_cons (gs_if (gb_cmp (go_eq hr.units) (ge_var (pv 2)) (ge_int) (nomark _)) (gss_one (gs_ret (ge_lst (ga_cons (ge_tup (ga_cons (ge_int) (ga_cons (ge_tup (ga_nil)) (ga_nil)))) (ga_nil))))) (gss_nil))
      (gss_one (gs_ret (ge_lst (ga_nil))))) (gss_nil))
      (gss_cons (gs_set (i := 3) sc__law_fillings.nd rfl (Or.inl rfl) (ge_lst (ga_nil)))
      (gss_cons (gs_for PassesOwn.never rfl (gi_range2 (by rfl) T.z_range (ga_cons (ge_int) (ga_cons (ge_bin go_add (ge_var (pv 2)) (ge_int)) (ga_nil)))) (gt_name (pg_name (i := 4) sc__law_fillings.nd rfl (Or.inl rfl)))
      (gss_cons (gs_set (i := 5) sc__law_fillings.nd rfl (Or.inl rfl) (ge_ix (ge_ix (ge_var (pv 0)) (ge_var (pv 4)) (fun _ _ => rfl)) (ge_ix (ge_var (pv 1)) (ge_int) (fun _ _ => rfl)) (fun _ _ => rfl)))
      (gss_one (gs_if (gb_truth (ge_var (pv 5))) (gss_one (gs_for PassesOwn.never rfl (gi_seq (ge_fn G__law_fillings hgd (hr.mono (by omega)) (by rfl) T.D__law_fillings.gl T.D__law_fillings.fn.kp T.D__law_fillings.bd .nil (fun _ _ => .nil) pass0 (ga_cons (ge_var (pv 0)) (ga_cons (ge_sl (ge_var (pv 1)) (gp_some (ge_int)) (gp_none)) (ga_cons (ge_bin go_sub (ge_var (pv 2)) (ge_var (pv 4))) (ga_nil)))))) (gt_name (pg_name (i := 6) sc__law_fillings.nd rfl (Or.inl rfl)))
      (gss_one (gs_for PassesOwn.never rfl (gi_seq (ge_var (pv 5))) (gt_name (pg_name (i := 7) sc__law_fillings.nd rfl (Or.inl rfl)))
      (gss_one (gs_expr (ge_meth PySem.F.slot_list_append PySem.F.type_list_append gm_append (ge_var (pv 3)) (ga_cons (ge_tup (ga_cons (ge_bin go_add (ge_ix (ge_var (pv 7)) (ge_int) (fun _ _ => rfl)) (ge_ix (ge_var (pv 6)) (ge_int) (fun _ _ => rfl))) (ga_cons (ge_bin go_add (ge_ix (ge_var (pv 7)) (ge_int) (fun _ _ => rfl)) (ge_ix (ge_var (pv 6)) (ge_int) (fun _ _ => rfl))) (ga_nil)))) (ga_nil))))))))) (gss_nil)))))
      (gss_one (gs_ret (ge_var (pv 3))))))
theorem x__law_trees {R__law_fillings : Rel} (T : Tx K mg F) (G__law_fillings : GFn P w K mg base CX0 4 F.a__law_fillings F.d__law_fillings ["_law_rows", "_law_slots", "_law_parts"] R__law_fillings) {R : Rel} (hm : MonoR R) (hl : ∀ ds S Q, R ds S Q → ds.length = 2)
    (hR : ∀ ds S Q, R ds S Q → ClS S → Cls S.length ds = true → b__law_trees R__law_fillings (fnE S Q) (startD N__law_trees ds) S) : GFn P w K mg base CX0 (4 + 1) F.a__law_trees F.d__law_trees ["_law_family_here", "_law_top"] R := by
  refine gfn_of T.D__law_trees.fn sc__law_trees (fun cdv A outer s H E hgd hr => ?_) hm hl hR
  exact gss_cons (gs_set (i := 2) sc__law_trees.nd rfl (Or.inl rfl) (ge_lst (ga_cons (ge_lc (own := [("_law_state", 8)]) (g := gName 8) rfl sc__law_trees.nd (gi_range1 (by rfl) T.z_range (ga_cons (ge_ix (ge_var (pv 0)) (ge_int) (fun _ _ => rfl)) (ga_nil))) (blkOk_by (own := [("_law_state", 8)]) (N := N__law_trees) (sc := defScope s__law_trees) (by decide +kernel)) (tgt_name (by decide)) (fun _ _ _ _ _ => pg_name (i := 8) sc__law_trees.nd rfl (Or.inl rfl)) (fun _ _ _ _ _ => gt_nil) (fun _ _ _ _ _ => ge_lst (ga_nil))) (ga_nil))))
      (gss_cons (gs_for PassesOwn.never rfl (gi_range2 (by rfl) T.z_range (ga_cons (ge_int) (ga_cons (ge_bin go_add (ge_var (pv 1)) (ge_int)) (ga_nil)))) (gt_name (pg_name (i := 3) sc__law_trees.nd rfl (Or.inl rfl)))
      (gss_cons (gs_setLc (i := 4) (own := [("_law_state", 8)]) (g := gName 8) rfl sc__law_trees.nd rfl rfl (sw_true rfl rfl rfl (by decide +kernel)) (gi_range1 (by rfl) T.z_range (ga_cons (ge_ix (ge_var (pv 0)) (ge_int) (fun _ _ => rfl)) (ga_nil))) (blkOk_by (own := [("_law_state", 8)]) (N := N__law_trees) (sc := defScope s__law_trees) (by decide +kernel)) (tgt_name (by decide)) (fun _ _ _ _ _ => pg_name (i := 8) sc__law_trees.nd rfl (Or.inl rfl)) (fun _ _ _ _ _ => gt_nil) (fun _ _ _ _ _ => ge_lst (ga_nil)))
      (gss_cons (gs_for PassesOwn.never rfl (gi_range1 (by rfl) T.z_range (ga_cons (ge_callB gc_len (by rfl) T.z_len (by decide +kernel) (ga_cons (ge_ix (ge_var (pv 0)) (ge_int) (fun _ _ => rfl)) (ga_nil))) (ga_nil))) (gt_name (pg_name (i := 5) sc__law_trees.nd rfl (Or.inl rfl)))
      (gss_cons (gs_set (i := 6) sc__law_trees.nd rfl (Or.inl rfl) (ge_ix (ge_ix (ge_var (pv 0)) (ge_int) (fun _ _ => rfl)) (ge_var (pv 5)) (fun _ _ => rfl)))
      (gss_one (gs_if (gb_cmp go_isnot (ge_ix (ge_var (pv 6)) (ge_int) (fun _ _ => rfl)) (ge_non) (nomark _)) (gss_one (gs_for PassesOwn.never rfl (gi_seq (ge_fn G__law_fillings hgd (hr.mono (by decide)) (by rfl) T.D__law_fillings.gl T.D__law_fillings.fn.kp T.D__law_fillings.bd .nil (fun _ _ => .nil) pass0 (ga_cons (ge_var (pv 2)) (ga_cons (ge_ix (ge_var (pv 6)) (ge_int) (fun _ _ => rfl)) (ga_cons (ge_bin go_sub (ge_var (pv 3)) (ge_int)) (ga_nil)))))) (gt_name (pg_name (i := 7) sc__law_trees.nd rfl (Or.inl rfl)))
      (gss_one (gs_expr (ge_meth PySem.F.slot_list_append PySem.F.type_list_append gm_append (ge_ix (ge_var (pv 4)) (ge_ix (ge_var (pv 6)) (ge_int) (fun _ _ => rfl)) (fun _ _ => rfl)) (ga_cons (ge_tup (ga_cons (ge_bin go_add (ge_ix (ge_var (pv 6)) (ge_int) (fun _ _ => rfl)) (ge_ix (ge_var (pv 7)) (ge_int) (fun _ _ => rfl))) (ga_cons (ge_bin go_add (ge_tup (ga_cons (ge_var (pv 5)) (ga_nil))) (ge_ix (ge_var (pv 7)) (ge_int) (fun _ _ => rfl))) (ga_nil)))) (ga_nil))))))) (gss_nil)))))
      (gss_one (gs_expr (ge_meth PySem.F.slot_list_append PySem.F.type_list_append gm_append (ge_var (pv 2)) (ga_cons (ge_var (pv 4)) (ga_nil))))))))
      (gss_one (gs_ret (ge_var (pv 2)))))
theorem x__law_same (T : Tx K mg F) {R : Rel} (hm : MonoR R) (hl : ∀ ds S Q, R ds S Q → ds.length = 2)
    (hR : ∀ ds S Q, R ds S Q → ClS S → Cls S.length ds = true → b__law_same (fnE S Q) (startD N__law_same ds) S) : GFn P w K mg base CX0 (0 + 1) F.a__law_same F.d__law_same ["_law_actual", "_law_due"] R := by
  refine gfn_of T.D__law_same.fn sc__law_same (fun cdv A outer s H E hgd hr => ?_) hm hl hR
  exact gss_one (gs_ret (ge_and (ge_cmp (go_eq hr.units) (ge_var (pv 0)) (ge_var (pv 1)) (nomark _)) (ge_one (ge_cmp (go_eq hr.units) (ge_callB (gc_repr hgd hr.un) (by rfl) T.z_repr (by decide +kernel) (ga_cons (ge_var (pv 0)) (ga_nil))) (ge_callB (gc_repr hgd hr.un) (by rfl) T.z_repr (by decide +kernel) (ga_cons (ge_var (pv 1)) (ga_nil))) (nomark _)))))
theorem x__law_large {R__law_draw : Rel} (T : Tx K mg F) (G__law_draw : GFn P w K mg base CX0 1 F.a__law_draw F.d__law_draw ["_law_tape_here", "_law_menu"] R__law_draw) {R : Rel} (hm : MonoR R) (hl : ∀ ds S Q, R ds S Q → ds.length = 2)
    (hR : ∀ ds S Q, R ds S Q → ClS S → Cls S.length ds = true → b__law_large R__law_draw (fnE S Q) (startD N__law_large ds) S) : GFn P w K mg base CX0 (1 + 1) F.a__law_large F.d__law_large ["_law_tape_here", "_law_low"] R := by
  refine gfn_of T.D__law_large.fn sc__law_large (fun cdv A outer s H E hgd hr => ?_) hm hl hR
  exact gss_cons (gs_set (i := 2) sc__law_large.nd rfl (Or.inl rfl) (ge_bin go_add (ge_int) (ge_fn G__law_draw hgd (hr.mono (by decide)) (by rfl) T.D__law_draw.gl T.D__law_draw.fn.kp T.D__law_draw.bd .nil (fun _ _ => .nil) pass0 (ga_cons (ge_var (pv 0)) (ga_cons (ge_int) (ga_nil))))))
      (gss_cons (gs_set (i := 3) sc__law_large.nd rfl (Or.inl rfl) (ge_bin go_add (ge_int) (ge_fn G__law_draw hgd (hr.mono (by decide)) (by rfl) T.D__law_draw.gl T.D__law_draw.fn.kp T.D__law_draw.bd .nil (fun _ _ => .nil) pass0 (ga_cons (ge_var (pv 0)) (ga_cons (ge_int) (ga_nil))))))
      (gss_cons (gs_set (i := 4) sc__law_large.nd rfl (Or.inl rfl) (ge_fn G__law_draw hgd (hr.mono (by decide)) (by rfl) T.D__law_draw.gl T.D__law_draw.fn.kp T.D__law_draw.bd .nil (fun _ _ => .nil) pass0 (ga_cons (ge_var (pv 0)) (ga_cons (ge_int) (ga_nil)))))
      (gss_cons (gs_set (i := 5) sc__law_large.nd rfl (Or.inl rfl) (ge_bin go_add (ge_int) (ge_fn G__law_draw hgd (hr.mono (by decide)) (by rfl) T.D__law_draw.gl T.D__law_draw.fn.kp T.D__law_draw.bd .nil (fun _ _ => .nil) pass0 (ga_cons (ge_var (pv 0)) (ga_cons (ge_int) (ga_nil))))))
      (gss_cons (gs_set (i := 6) sc__law_large.nd rfl (Or.inl rfl) (ge_bin go_add (ge_int) (ge_fn G__law_draw hgd (hr.mono (by decide)) (by rfl) T.D__law_draw.gl T.D__law_draw.fn.kp T.D__law_draw.bd .nil (fun _ _ => .nil) pass0 (ga_cons (ge_var (pv 0)) (ga_cons (ge_int) (ga_nil))))))
      (gss_cons (gs_set (i := 7) sc__law_large.nd rfl (Or.inl rfl) (ge_lst (ga_nil)))
      (gss_cons (gs_for PassesOwn.never rfl (gi_range1 (by rfl) T.z_range (ga_cons (ge_var (pv 2)) (ga_nil))) (gt_name (pg_name (i := 8) sc__law_large.nd rfl (Or.inl rfl)))
      (gss_cons (gs_set (i := 9) sc__law_large.nd rfl (Or.inl rfl) (ge_bin go_sub (ge_bin go_mod (ge_callT gc_int (by rfl) T.z_int (by decide +kernel) (ga_cons (ge_bin go_add (ge_bin go_mul (ge_var (pv 8)) (ge_var (pv 5))) (ge_var (pv 3))) (ga_nil))) (ge_int)) (ge_bin go_mul (ge_int) (ge_var (pv 1)))))
      (gss_cons (gs_set (i := 10) sc__law_large.nd rfl (Or.inl rfl) (ge_bin go_add (ge_var (pv 8)) (ge_var (pv 3))))
      (gss_cons (gs_if (gb_cmp (go_eq hr.units) (ge_var (pv 4)) (ge_int) (nomark _)) (gss_one (gs_set (i := 10) sc__law_large.nd rfl (Or.inl rfl) (ge_bin go_mod (ge_callT gc_int (by rfl) T.z_int (by decide +kernel) (ga_cons (ge_bin go_add (ge_var (pv 8)) (ge_var (pv 3))) (ga_nil))) (ge_var (pv 2))))) (gss_nil))
      (gss_cons (gs_if (gb_cmp go_lt (ge_var (pv 10)) (ge_var (pv 2)) (nomark _)) (gss_one (gs_expr (ge_meth PySem.F.slot_list_append PySem.F.type_list_append gm_append (ge_var (pv 7)) (ga_cons (ge_tup (ga_cons (ge_var (pv 8)) (ga_cons (ge_tup (ga_cons (ge_var (pv 10)) (ga_nil))) (ga_cons (ge_var (pv 9)) (ga_nil))))) (ga_nil))))) (gss_nil))
      (gss_one (gs_if (gb_cmp (go_eq hr.units) (ge_bin go_mod (ge_callT gc_int (by rfl) T.z_int (by decide +kernel) (ga_cons (ge_var (pv 8)) (ga_nil))) (ge_var (pv 6))) (ge_int) (nomark _)) (gss_one (gs_expr (ge_meth PySem.F.slot_list_append PySem.F.type_list_append gm_append (ge_var (pv 7)) (ga_cons (ge_tup (ga_cons (ge_var (pv 8)) (ga_cons (ge_tup (ga_nil)) (ga_cons (ge_bin go_sub (ge_bin go_sub (ge_int) (ge_bin go_mul (ge_int) (ge_var (pv 1)))) (ge_bin go_mod (ge_callT gc_int (by rfl) T.z_int (by decide +kernel) (ga_cons (ge_var (pv 8)) (ga_nil))) (ge_int))) (ga_nil))))) (ga_nil))))) (gss_nil))))))))
      (gss_one (gs_ret (ge_tup (ga_cons (ge_var (pv 2)) (ga_cons (ge_callT gc_tuple (by rfl) T.z_tuple (by decide +kernel) (ga_cons (ge_sl (ge_lst (ga_cons (ge_int) (ga_cons (ge_bin go_div (ge_var (pv 2)) (ge_int)) (ga_nil)))) (gp_some (ge_fn G__law_draw hgd (hr.mono (by decide)) (by rfl) T.D__law_draw.gl T.D__law_draw.fn.kp T.D__law_draw.bd .nil (fun _ _ => .nil) pass0 (ga_cons (ge_var (pv 0)) (ga_cons (ge_int) (ga_nil))))) (gp_none)) (ga_nil))) (ga_cons (ge_callT gc_tuple (by rfl) T.z_tuple (by decide +kernel) (ga_cons (ge_var (pv 7)) (ga_nil))) (ga_nil)))))))))))))
theorem x__law_times (T : Tx K mg F) {R : Rel} (hm : MonoR R) (hl : ∀ ds S Q, R ds S Q → ds.length = 2)
    (hR : ∀ ds S Q, R ds S Q → ClS S → Cls S.length ds = true → b__law_times (fnE S Q) (startD N__law_times ds) S) : GFn P w K mg base CX0 (0 + 1) F.a__law_times F.d__law_times ["_law_family_here", "_law_factor"] R := by
  refine gfn_of T.D__law_times.fn sc__law_times (fun cdv A outer s H E hgd hr => ?_) hm hl hR
  exact gss_cons (gs_set (i := 2) sc__law_times.nd rfl (Or.inl rfl) (ge_lst (ga_nil)))
      (gss_cons (gs_for PassesOwn.never rfl (gi_seq (ge_ix (ge_var (pv 0)) (ge_int) (fun _ _ => rfl))) (gt_name (pg_name (i := 3) sc__law_times.nd rfl (Or.inl rfl)))
      (gss_cons (gs_set (i := 4) sc__law_times.nd rfl (Or.inl rfl) (ge_ix (ge_var (pv 3)) (ge_int) (fun _ _ => rfl)))
      (gss_cons (gs_if (gb_cmp go_isnot (ge_var (pv 4)) (ge_non) (nomark _)) (gss_one (gs_set (i := 4) sc__law_times.nd rfl (Or.inl rfl) (ge_bin go_mul (ge_var (pv 4)) (ge_var (pv 1))))) (gss_nil))
      (gss_one (gs_expr (ge_meth PySem.F.slot_list_append PySem.F.type_list_append gm_append (ge_var (pv 2)) (ga_cons (ge_tup (ga_cons (ge_ix (ge_var (pv 3)) (ge_int) (fun _ _ => rfl)) (ga_cons (ge_ix (ge_var (pv 3)) (ge_int) (fun _ _ => rfl)) (ga_cons (ge_var (pv 4)) (ga_nil))))) (ga_nil))))))))
      (gss_one (gs_ret (ge_tup (ga_cons (ge_ix (ge_var (pv 0)) (ge_int) (fun _ _ => rfl)) (ga_cons (ge_ix (ge_var (pv 0)) (ge_int) (fun _ _ => rfl)) (ga_cons (ge_callT gc_tuple (by rfl) T.z_tuple (by decide +kernel) (ga_cons (ge_var (pv 2)) (ga_nil))) (ga_nil))))))))
theorem x__law_least_filling {R__law_least_filling : Rel} {k : Nat} (hk : 0 ≤ k) (T : Tx K mg F) (G__law_least_filling : GFn P w K mg base CX0 k F.a__law_least_filling F.d__law_least_filling ["_law_rows", "_law_slots", "_law_parts"] R__law_least_filling) {R : Rel} (hm : MonoR R) (hl : ∀ ds S Q, R ds S Q → ds.length = 3)
    (hR : ∀ ds S Q, R ds S Q → ClS S → Cls S.length ds = true → b__law_least_filling R__law_least_filling (fnE S Q) (startD N__law_least_filling ds) S) : GFn P w K mg base CX0 (k + 1) F.a__law_least_filling F.d__law_least_filling ["_law_rows", "_law_slots", "_law_parts"] R := by
  refine gfn_of T.D__law_least_filling.fn sc__law_least_filling (fun cdv A outer s H E hgd hr => ?_) hm hl hR
  exact gss_cons (gs_if (gb_not (gb_truth (ge_var (pv 1)))) (gss_one (gs_ret (ge_ix (ge_lst (ga_cons (ge_int) (ga_cons (ge_non) (ga_nil)))) (ge_callT gc_int (by rfl) T.z_int (by decide +kernel) (ga_cons (ge_cmp go_gt (ge_var (pv 2)) (ge_int) (nomark _)) (ga_nil))) (fun _ _ => rfl)))) (gss_nil))
      (gss_cons (gs_if (gb_cmp (go_eq hr.units) (ge_callB gc_len (by rfl) T.z_len (by decide +kernel) (ga_cons (ge_var (pv 1)) (ga_nil))) (ge_int) (nomark _)) (gss_one (gs_ret (ge_ix (ge_ix (ge_var (pv 0)) (ge_var (pv 2)) (fun _ _ => rfl)) (ge_ix (ge_var (pv 1)) (ge_int) (fun _ _ => rfl)) (fun _ _ => rfl)))) (gss_nil))
      (gss_cons (gs_set (i := 3) sc__law_least_filling.nd rfl (Or.inl rfl) (ge_non))
      (gss_cons (gs_for PassesOwn.never rfl (gi_range2 (by rfl) T.z_range (ga_cons (ge_int) (ga_cons (ge_var (pv 2)) (ga_nil)))) (gt_name (pg_name (i := 4) sc__law_least_filling.nd rfl (Or.inl rfl)))
      (gss_cons (gs_set (i := 5) sc__law_least_filling.nd rfl (Or.inl rfl) (ge_ix (ge_ix (ge_var (pv 0)) (ge_var (pv 4)) (fun _ _ => rfl)) (ge_ix (ge_var (pv 1)) (ge_int) (fun _ _ => rfl)) (fun _ _ => rfl)))
      (gss_one (gs_if (gb_cmp go_isnot (ge_var (pv 5)) (ge_non) (nomark _)) (gss_cons (gs_set (i := 6) sc__law_least_filling.nd rfl (Or.inl rfl) (ge_fn G__law_least_filling hgd (hr.mono (by omega)) (by rfl) T.D__law_least_filling.gl T.D__law_least_filling.fn.kp T.D__law_least_filling.bd .nil (fun _ _ => .nil) pass0 (ga_cons (ge_var (pv 0)) (ga_cons (ge_sl (ge_var (pv 1)) (gp_some (ge_int)) (gp_none)) (ga_cons (ge_bin go_sub (ge_var (pv 2)) (ge_var (pv 4))) (ga_nil))))))
      (gss_one (gs_if (GW.gb (gw_and (gb_cmp go_isnot (ge_var (pv 6)) (ge_non) (nomark _)) (gw_and1 (GW.gb (gw_or (gb_cmp go_is (ge_var (pv 3)) (ge_non) (nomark _)) (gw_or1 (gb_cmp go_lt (ge_bin go_add (ge_var (pv 5)) (ge_var (pv 6))) (ge_var (pv 3)) (nomark _)))))))) (gss_one (gs_set (i := 3) sc__law_least_filling.nd rfl (Or.inl rfl) (ge_bin go_add (ge_var (pv 5)) (ge_var (pv 6))))) (gss_nil)))) (gss_nil)))))
      (gss_one (gs_ret (ge_var (pv 3)))))))
theorem x__law_case {R__law_draw : Rel} {R__law_least_filling : Rel} (T : Tx K mg F) (G__law_draw : GFn P w K mg base CX0 1 F.a__law_draw F.d__law_draw ["_law_tape_here", "_law_menu"] R__law_draw) (G__law_least_filling : GFn P w K mg base CX0 4 F.a__law_least_filling F.d__law_least_filling ["_law_rows", "_law_slots", "_law_parts"] R__law_least_filling) {R : Rel} (hm : MonoR R) (hl : ∀ ds S Q, R ds S Q → ds.length = 2)
    (hR : ∀ ds S Q, R ds S Q → ClS S → Cls S.length ds = true → b__law_case R__law_draw R__law_least_filling (fnE S Q) (startD N__law_case ds) S) : GFn P w K mg base CX0 (4 + 1) F.a__law_case F.d__law_case ["_law_tape_here", "_law_family_here"] R := by
  refine gfn_of T.D__law_case.fn sc__law_case (fun cdv A outer s H E hgd hr => ?_) hm hl hR
  exact gss_cons (gs_set (i := 2) sc__law_case.nd rfl (Or.inl rfl) (ge_bin go_add (ge_int) (ge_fn G__law_draw hgd (hr.mono (by decide)) (by rfl) T.D__law_draw.gl T.D__law_draw.fn.kp T.D__law_draw.bd .nil (fun _ _ => .nil) pass0 (ga_cons (ge_var (pv 0)) (ga_cons (ge_ix (ge_lst (ga_cons (ge_int) (ga_cons (ge_int) (ga_cons (ge_int) (ga_nil))))) (ge_fn G__law_draw hgd (hr.mono (by decide)) (by rfl) T.D__law_draw.gl T.D__law_draw.fn.kp T.D__law_draw.bd .nil (fun _ _ => .nil) pass0 (ga_cons (ge_var (pv 0)) (ga_cons (ge_int) (ga_nil)))) (fun _ _ => rfl)) (ga_nil))))))
      (gss_cons (gs_set (i := 3) sc__law_case.nd rfl (Or.inr rfl) (ge_fn G__law_draw hgd (hr.mono (by decide)) (by rfl) T.D__law_draw.gl T.D__law_draw.fn.kp T.D__law_draw.bd .nil (fun _ _ => .nil) pass0 (ga_cons (ge_var (pv 0)) (ga_cons (ge_ix (ge_var (pv 1)) (ge_int) (fun _ _ => rfl)) (ga_nil)))))
      (gss_cons (gs_set (i := 4) sc__law_case.nd rfl (Or.inr rfl) (ge_lst (ga_cons (ge_lc (own := [("_law_goal", 9)]) (g := gName 9) rfl sc__law_case.nd (gi_range1 (by rfl) T.z_range (ga_cons (ge_ix (ge_var (pv 1)) (ge_int) (fun _ _ => rfl)) (ga_nil))) (blkOk_by (own := [("_law_goal", 9)]) (N := N__law_case) (sc := defScope s__law_case) (by decide +kernel)) (tgt_name (by decide)) (fun _ _ _ _ _ => pg_name (i := 9) sc__law_case.nd rfl (Or.inl rfl)) (fun _ _ _ _ _ => gt_nil) (fun _ _ _ _ _ => ge_non)) (ga_nil))))
      (gss_cons (gs_for PassesOwn.never rfl (gi_range2 (by rfl) T.z_range (ga_cons (ge_int) (ga_cons (ge_bin go_add (ge_var (pv 2)) (ge_int)) (ga_nil)))) (gt_name (pg_name (i := 5) sc__law_case.nd rfl (Or.inl rfl)))
      (gss_cons (gs_setLc (i := 6) (own := [("_law_goal", 9)]) (g := gName 9) rfl sc__law_case.nd rfl rfl (sw_true rfl rfl rfl (by decide +kernel)) (gi_range1 (by rfl) T.z_range (ga_cons (ge_ix (ge_var (pv 1)) (ge_int) (fun _ _ => rfl)) (ga_nil))) (blkOk_by (own := [("_law_goal", 9)]) (N := N__law_case) (sc := defScope s__law_case) (by decide +kernel)) (tgt_name (by decide)) (fun _ _ _ _ _ => pg_name (i := 9) sc__law_case.nd rfl (Or.inl rfl)) (fun _ _ _ _ _ => gt_nil) (fun _ _ _ _ _ => ge_non))
      (gss_cons (gs_for PassesOwn.never rfl (gi_seq (ge_ix (ge_var (pv 1)) (ge_int) (fun _ _ => rfl))) (gt_name (pg_name (i := 7) sc__law_case.nd rfl (Or.inl rfl)))
      (gss_one (gs_if (gb_cmp go_isnot (ge_ix (ge_var (pv 7)) (ge_int) (fun _ _ => rfl)) (ge_non) (nomark _)) (gss_cons (gs_set (i := 8) sc__law_case.nd rfl (Or.inl rfl) (ge_fn G__law_least_filling hgd (hr.mono (by decide)) (by rfl) T.D__law_least_filling.gl T.D__law_least_filling.fn.kp T.D__law_least_filling.bd .nil (fun _ _ => .nil) pass0 (ga_cons (ge_var (pv 4)) (ga_cons (ge_ix (ge_var (pv 7)) (ge_int) (fun _ _ => rfl)) (ga_cons (ge_bin go_sub (ge_var (pv 5)) (ge_int)) (ga_nil))))))
      (gss_one (gs_if (GW.gb (gw_and (gb_cmp go_isnot (ge_var (pv 8)) (ge_non) (nomark _)) (gw_and1 (GW.gb (gw_or (gb_cmp go_is (ge_ix (ge_var (pv 6)) (ge_ix (ge_var (pv 7)) (ge_int) (fun _ _ => rfl)) (fun _ _ => rfl)) (ge_non) (nomark _)) (gw_or1 (gb_cmp go_lt (ge_bin go_add (ge_var (pv 8)) (ge_ix (ge_var (pv 7)) (ge_int) (fun _ _ => rfl))) (ge_ix (ge_var (pv 6)) (ge_ix (ge_var (pv 7)) (ge_int) (fun _ _ => rfl)) (fun _ _ => rfl)) (nomark _)))))))) (gss_one (gs_asg (ge_bin go_add (ge_var (pv 8)) (ge_ix (ge_var (pv 7)) (ge_int) (fun _ _ => rfl))) (gt_sub (ge_var (pv 6)) (ge_ix (ge_var (pv 7)) (ge_int) (fun _ _ => rfl))))) (gss_nil)))) (gss_nil))))
      (gss_one (gs_expr (ge_meth PySem.F.slot_list_append PySem.F.type_list_append gm_append (ge_var (pv 4)) (ga_cons (ge_var (pv 6)) (ga_nil))))))))
      (gss_one (gs_ret (ge_tup (ga_cons (ge_var (pv 1)) (ga_cons (ge_var (pv 3)) (ga_cons (ge_var (pv 2)) (ga_cons (ge_callT gc_tuple (by rfl) T.z_tuple (by decide +kernel) (ga_cons (ge_lc (own := [("_law_size_here", 5)]) (g := gName 5) rfl sc__law_case.nd (gi_range2 (by rfl) T.z_range (ga_cons (ge_int) (ga_cons (ge_bin go_add (ge_var (pv 2)) (ge_int)) (ga_nil)))) (blkOk_by (own := [("_law_size_here", 5)]) (N := N__law_case) (sc := defScope s__law_case) (by decide +kernel)) (tgt_name (by decide)) (fun _ _ _ _ _ => pg_name (i := 5) sc__law_case.nd rfl (Or.inl rfl)) (fun _ _ _ _ _ => gt_nil) (fun _ _ _ _ _ => ge_ix (ge_ix (ge_var (pv 4)) (ge_var (pv 5)) (fun _ _ => rfl)) (ge_var (pv 3)) (fun _ _ => rfl))) (ga_nil))) (ga_nil)))))))))))
theorem x_law {R__law_tape : Rel} {R__law_draw : Rel} {R__law_family : Rel} {R__law_times : Rel} {R__law_large : Rel} {R__law_case : Rel} {R__law_same : Rel} {R_least_by_size : Rel} {R__law_reach : Rel} {R__law_counts : Rel} {R__law_trees : Rel} {R__law_sizes : Rel} {R__law_tree : Rel} {R__law_priced : Rel} (T : Tx K mg F) (G__law_tape : GFn P w K mg base CX0 1 F.a__law_tape F.d__law_tape ["_law_script"] R__law_tape) (G__law_draw : GFn P w K mg base CX0 1 F.a__law_draw F.d__law_draw ["_law_tape_here", "_law_menu"] R__law_draw) (G__law_family : GFn P w K mg base CX0 3 F.a__law_family F.d__law_family ["_law_tape_here", "_law_states", "_law_variants", "_law_low"] R__law_family) (G__law_times : GFn P w K mg base CX0 1 F.a__law_times F.d__law_times ["_law_family_here", "_law_factor"] R__law_times) (G__law_large : GFn P w K mg base CX0 2 F.a__law_large F.d__law_large ["_law_tape_here", "_law_low"] R__law_large) (G__law_case : GFn P w K mg base CX0 5 F.a__law_case F.d__law_case ["_law_tape_here", "_law_family_here"] R__law_case) (G__law_same : GFn P w K mg base CX0 1 F.a__law_same F.d__law_same ["_law_actual", "_law_due"] R__law_same) (G_least_by_size : GFn P w K mg base CX0 5 F.a_least_by_size F.d_least_by_size ["family", "state", "most"] R_least_by_size) (G__law_reach : GFn P w K mg base CX0 1 F.a__law_reach F.d__law_reach ["_law_counts_here", "_law_limit"] R__law_reach) (G__law_counts : GFn P w K mg base CX0 5 F.a__law_counts F.d__law_counts ["_law_family_here", "_law_top"] R__law_counts) (G__law_trees : GFn P w K mg base CX0 5 F.a__law_trees F.d__law_trees ["_law_family_here", "_law_top"] R__law_trees) (G__law_sizes : GFn P w K mg base CX0 2 F.a__law_sizes F.d__law_sizes ["_law_family_here"] R__law_sizes) (G__law_tree : GFn P w K mg base CX0 2 F.a__law_tree F.d__law_tree ["_law_tape_here", "_law_family_here", "_law_sizes_here", "_law_state", "_law_room"] R__law_tree) (G__law_priced : GFn P w K mg base CX0 1 F.a__law_priced F.d__law_priced ["_law_family_here", "_law_tree_here"] R__law_priced) {R : Rel} (hm : MonoR R) (hl : ∀ ds S Q, R ds S Q → ds.length = 1)
    (hR : ∀ ds S Q, R ds S Q → ClS S → Cls S.length ds = true → b_law R__law_tape R__law_draw R__law_family R__law_times R__law_large R__law_case R__law_same R_least_by_size R__law_reach R__law_counts R__law_trees R__law_sizes R__law_tree R__law_priced (fnE S Q) (startD N_law ds) S) : GFn P w K mg base CX0 (5 + 1) F.a_law F.d_law ["_law_script"] R := by
  refine gfn_of T.D_law.fn sc_law (fun cdv A outer s H E hgd hr => ?_) hm hl hR
  exact gss_cons (gs_set (i := 1) sc_law.nd rfl (Or.inl rfl) (ge_fn G__law_tape hgd (hr.mono (by decide)) (by rfl) T.D__law_tape.gl T.D__law_tape.fn.kp T.D__law_tape.bd .nil (fun _ _ => .nil) pass0 (ga_cons (ge_var (pv 0)) (ga_nil))))
      (gss_cons (gs_set (i := 2) sc_law.nd rfl (Or.inl rfl) (ge_fn G__law_draw hgd (hr.mono (by decide)) (by rfl) T.D__law_draw.gl T.D__law_draw.fn.kp T.D__law_draw.bd .nil (fun _ _ => .nil) pass0 (ga_cons (ge_var (pv 1)) (ga_cons (ge_int) (ga_nil)))))
      (gss_cons (gs_set (i := 3) sc_law.nd rfl (Or.inl rfl) (ge_fn G__law_family hgd (hr.mono (by decide)) (by rfl) T.D__law_family.gl T.D__law_family.fn.kp T.D__law_family.bd .nil (fun _ _ => .nil) pass0 (ga_cons (ge_var (pv 1)) (ga_cons (ge_int) (ga_cons (ge_int) (ga_cons (ge_int) (ga_nil)))))))
      (gss_cons (gs_set (i := 4) sc_law.nd rfl (Or.inl rfl) (ge_fn G__law_times hgd (hr.mono (by decide)) (by rfl) T.D__law_times.gl T.D__law_times.fn.kp T.D__law_times.bd .nil (fun _ _ => .nil) pass0 (ga_cons (ge_fn G__law_family hgd (hr.mono (by decide)) (by rfl) T.D__law_family.gl T.D__law_family.fn.kp T.D__law_family.bd .nil (fun _ _ => .nil) pass0 (ga_cons (ge_var (pv 1)) (ga_cons (ge_int) (ga_cons (ge_int) (ga_cons (ge_int) (ga_nil)))))) (ga_cons (ge_ix (ge_lst (ga_cons (ge_int) (ga_cons (ge_int) (ga_cons (ge_int) (ga_cons (ge_bin go_pow (ge_int) (ge_int)) (ga_nil)))))) (ge_fn G__law_draw hgd (hr.mono (by decide)) (by rfl) T.D__law_draw.gl T.D__law_draw.fn.kp T.D__law_draw.bd .nil (fun _ _ => .nil) pass0 (ga_cons (ge_var (pv 1)) (ga_cons (ge_int) (ga_nil)))) (fun _ _ => rfl)) (ga_nil)))))
      (gss_cons (gs_if (gb_cmp (go_eq hr.units) (ge_var (pv 2)) (ge_int) (nomark _)) (gss_one (gs_set (i := 3) sc_law.nd rfl (Or.inl rfl) (ge_fn G__law_large hgd (hr.mono (by decide)) (by rfl) T.D__law_large.gl T.D__law_large.fn.kp T.D__law_large.bd .nil (fun _ _ => .nil) pass0 (ga_cons (ge_var (pv 1)) (ga_cons (ge_int) (ga_nil)))))) (gss_nil))
      (gss_cons (gs_set (i := 5) sc_law.nd rfl (Or.inl rfl) (ge_lst (ga_cons (ge_fn G__law_case hgd (hr.mono (by decide)) (by rfl) T.D__law_case.gl T.D__law_case.fn.kp T.D__law_case.bd .nil (fun _ _ => .nil) pass0 (ga_cons (ge_var (pv 1)) (ga_cons (ge_var (pv 3)) (ga_nil)))) (ga_cons (ge_fn G__law_case hgd (hr.mono (by decide)) (by rfl) T.D__law_case.gl T.D__law_case.fn.kp T.D__law_case.bd .nil (fun _ _ => .nil) pass0 (ga_cons (ge_var (pv 1)) (ga_cons (ge_var (pv 4)) (ga_nil)))) (ga_nil)))))
      (gss_cons (gs_for PassesOwn.never rfl (gi_seq (ge_lst (ga_cons (ge_ix (ge_var (pv 5)) (ge_int) (fun _ _ => rfl)) (ga_cons (ge_ix (ge_var (pv 5)) (ge_int) (fun _ _ => rfl)) (ga_cons (ge_ix (ge_var (pv 5)) (ge_int) (fun _ _ => rfl)) (ga_nil)))))) (gt_name (pg_name (i := 6) sc_law.nd rfl (Or.inl rfl)))
      (gss_one (gs_if (gb_not (gb_truth (ge_fn G__law_same hgd (hr.mono (by decide)) (by rfl) T.D__law_same.gl T.D__law_same.fn.kp T.D__law_same.bd .nil (fun _ _ => .nil) pass0 (ga_cons (ge_fn G_least_by_size hgd (hr.mono (by decide)) (by rfl) T.D_least_by_size.gl T.D_least_by_size.fn.kp T.D_least_by_size.bd .nil (fun _ _ => .nil) pass0 (ga_cons (ge_ix (ge_var (pv 6)) (ge_int) (fun _ _ => rfl)) (ga_cons (ge_ix (ge_var (pv 6)) (ge_int) (fun _ _ => rfl)) (ga_cons (ge_ix (ge_var (pv 6)) (ge_int) (fun _ _ => rfl)) (ga_nil))))) (ga_cons (ge_ix (ge_var (pv 6)) (ge_int) (fun _ _ => rfl)) (ga_nil)))))) (gss_one (gs_ret (ge_bl))) (gss_nil))))
      (gss_cons (gs_set (i := 7) sc_law.nd rfl (Or.inl rfl) (ge_ix (ge_ix (ge_var (pv 5)) (ge_int) (fun _ _ => rfl)) (ge_int) (fun _ _ => rfl)))
      (gss_cons (gs_set (i := 8) sc_law.nd rfl (Or.inl rfl) (ge_fn G_least_by_size hgd (hr.mono (by decide)) (by rfl) T.D_least_by_size.gl T.D_least_by_size.fn.kp T.D_least_by_size.bd .nil (fun _ _ => .nil) pass0 (ga_cons (ge_var (pv 4)) (ga_cons (ge_var (pv 7)) (ga_cons (ge_ix (ge_ix (ge_var (pv 5)) (ge_int) (fun _ _ => rfl)) (ge_int) (fun _ _ => rfl)) (ga_nil))))))
      (gss_cons (gs_set (i := 9) sc_law.nd rfl (Or.inl rfl) (ge_fn G__law_reach hgd (hr.mono (by decide)) (by rfl) T.D__law_reach.gl T.D__law_reach.fn.kp T.D__law_reach.bd .nil (fun _ _ => .nil) pass0 (ga_cons (ge_fn G__law_counts hgd (hr.mono (by decide)) (by rfl) T.D__law_counts.gl T.D__law_counts.fn.kp T.D__law_counts.bd .nil (fun _ _ => .nil) pass0 (ga_cons (ge_var (pv 4)) (ga_cons (ge_ix (ge_ix (ge_var (pv 5)) (ge_int) (fun _ _ => rfl)) (ge_int) (fun _ _ => rfl)) (ga_nil)))) (ga_cons (ge_int) (ga_nil)))))
      (gss_cons (gs_set (i := 10) sc_law.nd rfl (Or.inl rfl) (ge_fn G__law_trees hgd (hr.mono (by decide)) (by rfl) T.D__law_trees.gl T.D__law_trees.fn.kp T.D__law_trees.bd .nil (fun _ _ => .nil) pass0 (ga_cons (ge_var (pv 4)) (ga_cons (ge_var (pv 9)) (ga_nil)))))
      (gss_cons (gs_for PassesOwn.never rfl (gi_range2 (by rfl) T.z_range (ga_cons (ge_int) (ga_cons (ge_bin go_add (ge_var (pv 9)) (ge_int)) (ga_nil)))) (gt_name (pg_name (i := 11) sc_law.nd rfl (Or.inl rfl)))
      (gss_cons (gs_setLc (i := 13) (own := [("_law_tree_here", 14)]) (g := gName 14) rfl sc_law.nd rfl rfl (sw_true rfl rfl rfl (by decide +kernel)) (gi_seq (ge_ix (ge_ix (ge_var (pv 10)) (ge_var (pv 11)) (fun _ _ => rfl)) (ge_var (pv 7)) (fun _ _ => rfl))) (blkOk_by (own := [("_law_tree_here", 14)]) (N := N_law) (sc := defScope s_law) (by decide +kernel)) (tgt_name (by decide)) (fun _ _ _ _ _ => pg_name (i := 14) sc_law.nd rfl (Or.inl rfl)) (fun _ _ _ _ _ => gt_nil) (fun _ _ _ _ _ => ge_ix (ge_var (pv 14)) (ge_int) (fun _ _ => rfl)))
      (gss_one (gs_if (GW.gb (gw_or (gb_cmp (go_ne hr.units) (ge_cmp go_is (ge_ix (ge_var (pv 8)) (ge_bin go_sub (ge_var (pv 11)) (ge_int)) (fun _ _ => rfl)) (ge_non) (nomark _)) (ge_not (ge_var (pv 13))) (nomark _)) (gw_or1 (GW.gb (gw_and (gb_truth (ge_var (pv 13))) (gw_and1 (gb_cmp (go_ne hr.units) (ge_ix (ge_var (pv 8)) (ge_bin go_sub (ge_var (pv 11)) (ge_int)) (fun _ _ => rfl)) (ge_callB (gc_minL rfl) (by rfl) T.z_min (by decide +kernel) (ga_cons (ge_var (pv 13)) (ga_nil))) (nomark _)))))))) (gss_one (gs_ret (ge_bl))) (gss_nil)))))
      (gss_cons (gs_set (i := 12) sc_law.nd rfl (Or.inl rfl) (ge_fn G__law_sizes hgd (hr.mono (by decide)) (by rfl) T.D__law_sizes.gl T.D__law_sizes.fn.kp T.D__law_sizes.bd .nil (fun _ _ => .nil) pass0 (ga_cons (ge_var (pv 4)) (ga_nil))))
      (gss_cons (gs_if (GW.gb (gw_and (gb_cmp go_isnot (ge_ix (ge_var (pv 12)) (ge_var (pv 7)) (fun _ _ => rfl)) (ge_non) (nomark _)) (gw_and1 (gb_cmp go_le (ge_ix (ge_var (pv 12)) (ge_var (pv 7)) (fun _ _ => rfl)) (ge_ix (ge_ix (ge_var (pv 5)) (ge_int) (fun _ _ => rfl)) (ge_int) (fun _ _ => rfl)) (nomark _))))) (gss_cons (gs_set (i := 14) sc_law.nd rfl (Or.inl rfl) (ge_fn G__law_tree hgd (hr.mono (by decide)) (by rfl) T.D__law_tree.gl T.D__law_tree.fn.kp T.D__law_tree.bd .nil (fun _ _ => .nil) pass0 (ga_cons (ge_var (pv 1)) (ga_cons (ge_var (pv 4)) (ga_cons (ge_var (pv 12)) (ga_cons (ge_var (pv 7)) (ga_cons (ge_ix (ge_ix (ge_var (pv 5)) (ge_int) (fun _ _ => rfl)) (ge_int) (fun _ _ => rfl)) (ga_nil))))))))
      (gss_one (gs_ret (ge_and (ge_cmp go_isnot (ge_ix (ge_var (pv 8)) (ge_bin go_sub (ge_callB gc_len (by rfl) T.z_len (by decide +kernel) (ga_cons (ge_var (pv 14)) (ga_nil))) (ge_int)) (fun _ _ => rfl)) (ge_non) (nomark _)) (ge_one (ge_cmp go_ge (ge_fn G__law_priced hgd (hr.mono (by decide)) (by rfl) T.D__law_priced.gl T.D__law_priced.fn.kp T.D__law_priced.bd .nil (fun _ _ => .nil) pass0 (ga_cons (ge_var (pv 4)) (ga_cons (ge_var (pv 14)) (ga_nil)))) (ge_ix (ge_var (pv 8)) (ge_bin go_sub (ge_callB gc_len (by rfl) T.z_len (by decide +kernel) (ga_cons (ge_var (pv 14)) (ga_nil))) (ge_int)) (fun _ _ => rfl)) (nomark _))))))) (gss_nil))
      (gss_one (gs_ret (ge_bl))))))))))))))))
end
end W
end
section
open PySem PySem.Spec L2 G
local macro_rules | `(tactic| walk_at "g") => `(tactic| first
  | with_reducible refine i_seq ?_ | with_reducible refine i_asg ?_ | with_reducible refine i_bin ?_ | with_reducible refine i_var rfl ?_ | with_reducible refine i_c ?_ | with_reducible refine i_acons ?_ | with_reducible refine i_anil ?_
  | with_reducible refine i_tname ?_ | with_reducible refine i_call ?_ | with_reducible refine i_fn ?_ | with_reducible refine i_if ?_ | with_reducible refine i_test ?_ | with_reducible refine i_next ?_ | with_reducible refine i_expr ?_ | with_reducible refine i_ret ?_
  | with_reducible refine i_retN ?_ | with_reducible refine i_brk ?_ | with_reducible refine i_cnt ?_ | with_reducible refine i_aug rfl ?_ | with_reducible refine i_augS ?_ | with_reducible refine i_ttup rfl ?_ | with_reducible refine i_tcons ?_ | with_reducible refine i_tnil ?_ | with_reducible refine i_tsub ?_
  | with_reducible refine i_un ?_ | with_reducible refine i_tup ?_ | with_reducible refine i_lst ?_ | with_reducible refine i_truth ?_ | with_reducible refine i_bnot ?_ | with_reducible refine i_band ?_ | with_reducible refine i_bor ?_ | with_reducible refine i_gif ?_ | with_reducible refine i_gand ?_ | with_reducible refine i_gor ?_ | with_reducible refine i_gnot ?_
  | with_reducible refine i_sl ?_ | with_reducible refine i_pnone ?_ | with_reducible refine i_psome ?_ | with_reducible refine i_meth ?_ | with_reducible refine i_for ?_ | with_reducible refine i_wrange1 ?_ | with_reducible refine i_wrange2 ?_ | with_reducible refine i_wseq ?_ | with_reducible refine i_wrev ?_ | with_reducible refine i_lc ?_ | with_reducible refine i_byes ?_
  | with_reducible refine i_add ?_ | with_reducible refine i_sub ?_ | with_reducible refine i_neg ?_ | with_reducible refine i_cmp ?_ | with_reducible refine i_eq ?_ | with_reducible refine i_ne ?_ | with_reducible refine i_eqS ?_ | with_reducible refine i_neB ?_ | with_reducible refine i_is ?_ | with_reducible refine i_isnot ?_
  | with_reducible refine i_mulr (by decide) (by decide) ?_ | with_reducible refine i_mull (by decide) (by decide) ?_ | with_reducible refine i_mod (by decide) ?_ | with_reducible refine i_pow (by decide) (by decide) (by decide) ?_
  | with_reducible refine i_int ?_ | with_reducible refine i_intb ?_ | with_reducible refine i_abs ?_ | with_reducible refine i_max ?_ | with_reducible refine i_min2 ?_ | with_reducible refine i_lenT ?_ | with_reducible refine i_lenF ?_ | with_reducible refine i_tupleT ?_ | with_reducible refine i_listF ?_ | with_reducible refine i_listT ?_ | with_reducible refine i_slT ?_
  | with_reducible refine i_onT ?_ | with_reducible refine i_onI ?_ | with_reducible refine i_onK ?_ | with_reducible refine i_onN ?_ | with_reducible refine i_onST ?_ | with_reducible refine i_onSF ?_ | with_reducible refine i_onRT ?_
  | (with_reducible show dIx (.tup _) (.int _) _ _; refine i_ixT rfl ?_) | (with_reducible show dIx (.loc _) (.int _) _ _; refine i_ixL rfl rfl ?_) | (with_reducible show dSet (.loc _) (.int _) _ _ _; refine i_setL rfl rfl ?_) | (with_reducible show bLen [.loc _] _ _; refine i_lenL rfl ?_)
  | with_reducible refine i_t ?_ | with_reducible refine i_f ?_ | with_reducible refine i_kp ?_
  | (with_reducible show (List.length _ ≤ sizeLine ∧ _); refine i_sz rfl ?_)
  | dsimp only)
local macro_rules | `(tactic| walk_at "gi") => `(tactic| first | with_reducible refine i_ite (fun h => ?_) (fun h => ?_) | with_reducible refine i_iten (fun h => ?_) (fun h => ?_) | with_reducible refine i_iteb (fun h => ?_) (fun h => ?_) | with_reducible refine i_itenb (fun h => ?_) (fun h => ?_))

namespace W
/-! ### least prices by size -/
def ltb (vars : List Vt) : Nat → Nat → Nat → Option Int
  | 0 => fun _ _ => none
  | k + 1 => fun n s => if n = k + 1 then lvm vars (ltb vars k) (k + 1) s else ltb vars k n s
theorem ltb_mn {vars : List Vt} : ∀ (k n s : Nat), ltb vars k n s = mn (tb vars k) n s
  | 0, _, _ => rfl
  | k + 1, n, s => by
    have ih : ltb vars k = mn (tb vars k) := funext fun n => funext fun s => ltb_mn k n s
    show (if n = k + 1 then lvm vars (ltb vars k) (k + 1) s else ltb vars k n s) = minO ((if n = k + 1 then lvl vars (tb vars k) (k + 1) s else tb vars k n s).map (·.1))
    by_cases e : n = k + 1
    · rw [if_pos e, if_pos e, mn_lvl fun s => tb_zero, ih]
    · rw [if_neg e, if_neg e, ih]
      rfl
theorem ltb_big {vars : List Vt} {k n s : Nat} (h : k < n) : ltb vars k n s = none := by
  rw [ltb_mn]
  unfold mn
  rw [tb_big h]
  rfl
theorem ltb_at {vars : List Vt} {k n s : Nat} (h : n ≤ k) : ltb vars k n s = mn (tb vars n) n s := by
  rw [ltb_mn]
  unfold mn
  rw [tb_at h]
def upd (o x : Option Int) : Option Int := bet o x
theorem lvm_snoc {vs : List Vt} {v : Vt} {t : Nat → Nat → Option Int} {n s : Nat} : lvm (vs ++ [v]) t n s = bet (lvm vs t n s) (if v.plug = s then comb v.price (lf t v.slots (n - 1)) else none) := by
  unfold lvm
  rw [List.map_append, List.map_singleton, best_snoc]
def spLf (prog : Bool) : Nat → Rel
  | 0 => fun _ _ _ => False
  | d + 1 => fun ds S Q => ∃ (b l top n p : Nat) (t : Nat → Nat → Option Int) (ss : List Nat), ds = [.loc l, .tup (ss.map eN), eN p] ∧ (if prog = true then Tab b S l n top (fun s i => oi (t i s)) else Tab b S l top n (fun i s => oi (t i s))) ∧ p < top ∧ top ≤ 1000 ∧ (∀ s ∈ ss, s < n) ∧ ss.length ≤ d ∧ Q (oi (lf t ss p)) S
theorem best_rng {f : Nat → Option Int} {n : Nat} : best ((List.range (n + 1)).map f) = bet (best ((List.range n).map f)) (f n) := by
  rw [List.range_succ, List.map_append, List.map_singleton, best_snoc]
theorem lawLf_ok {d : Nat} {ds : List D} {S : Sto} {Q : D → Sto → Prop} (h : spLf false (d + 1) ds S Q) (c : ClS S) : b__law_least_filling (spLf false d) (fnE S Q) (ds.map some ++ [none, none, none, none]) S := by
  obtain ⟨b, l, top, n, p, t, ss, rfl, ht, hp, htop, hs, hd, q⟩ := h
  rw [if_neg (by decide)] at ht
  show b__law_least_filling (spLf false d) (fnE S Q) [some (.loc l), some (.tup (ss.map eN)), some (.int p), none, none, none, none] S
  unfold b__law_least_filling
  repeat walk_at "g"
  cases ss with
  | nil =>
    refine i_yes rfl ?_
    repeat walk_at "g"
    refine i_ixL (xs := [.int 0, .non]) (d := oi (lf t [] p)) List.getElem?_concat_length ?_ ?_
    · by_cases e : p = 0
      · subst e
        rfl
      · rw [show decide ((p : Int) > 0) = true from decide_eq_true (by omega), show lf t [] p = none from if_neg e]
        rfl
    · exact kp_pre c (Nat.le_refl _) (oi_cl _) q
  | cons s ss =>
    have hs0 : s < n := hs s List.mem_cons_self
    refine i_no rfl ?_
    repeat walk_at "g"
    cases ss with
    | nil =>
      refine i_yes rfl ?_
      obtain ⟨xs, r, e1, _, e2, e3⟩ := ht.row hp
      repeat walk_at "g"
      refine i_ixL e1 e2 ?_
      repeat walk_at "g"
      refine i_ixL e3 (at_nat (rowD_at hs0)) ?_
      exact i_fin q
    | cons s2 ss =>
      refine i_no (decide_eq_false (by simp only [List.map_cons, List.length_cons]; omega)) ?_
      repeat walk_at "g"
      refine ⟨⟨by omega, by omega, by omega, by omega⟩, ?_⟩
      rw [show ((p : Int) - 1).toNat = p - 1 by omega]
      refine each_rng (fun i γ S' => ∃ a4 a5 a6, γ = [some (.loc l), some (.tup ((s :: s2 :: ss).map eN)), some (.int p), some (oi (best ((List.range i).map fun i => comb (t (i + 1) s) (lf t (s2 :: ss) (p - (i + 1)))))), a4, a5, a6] ∧ S' = S) 1 (p - 1) ?_ ?_ ⟨none, none, none, rfl, rfl⟩
      · rintro γ S' ⟨a4, a5, a6, rfl, rfl⟩
        repeat walk_at "g"
        exact i_fin q
      · rintro i γ S' R hi ⟨a4, a5, a6, rfl, rfl⟩ k
        rw [show (1 : Int) + (i : Int) = ((i + 1 : Nat) : Int) by omega]
        obtain ⟨xs, r, e1, _, e2, e3⟩ := ht.row (i := i + 1) (by omega)
        repeat walk_at "g"
        refine i_ixL e1 e2 ?_
        repeat walk_at "g"
        refine i_ixT (at0 _ _) ?_
        repeat walk_at "g"
        refine i_ixL e3 (at_nat (rowD_at hs0)) ?_
        have key : ∀ a4 a5 a6 o, o = best ((List.range (i + 1)).map fun i => comb (t (i + 1) s) (lf t (s2 :: ss) (p - (i + 1)))) → R [some (.loc l), some (.tup ((s :: s2 :: ss).map eN)), some (.int p), some (oi o), a4, a5, a6] S' := fun a4 a5 a6 o e => k _ _ ⟨a4, a5, a6, by rw [e], rfl⟩
        rw [best_rng] at key
        generalize best ((List.range i).map fun i => comb (t (i + 1) s) (lf t (s2 :: ss) (p - (i + 1)))) = o at key ⊢
        generalize hx : t (i + 1) s = x at key ⊢
        repeat walk_at "g"
        rw [isNon_oi]
        cases x with
        | none =>
          refine i_no rfl ?_
          repeat walk_at "g"
          exact key _ _ _ _ rfl
        | some xz =>
          refine i_yes rfl ?_
          repeat walk_at "g"
          rw [cut1D, show (p : Int) - ((i + 1 : Nat) : Int) = ((p - (i + 1) : Nat) : Int) by omega]
          cases d with
          | zero => exact absurd hd (by simp only [List.length_cons]; omega)
          | succ d =>
          refine ⟨b, l, top, n, p - (i + 1), t, s2 :: ss, rfl, by rw [if_neg (by decide)]; exact ht, by omega, htop, fun x hx => hs x (List.mem_cons_of_mem _ hx), by simp only [List.length_cons] at hd ⊢; omega, ?_⟩
          generalize lf t (s2 :: ss) (p - (i + 1)) = y at key ⊢
          repeat walk_at "g"
          rw [isNon_oi]
          cases y with
          | none =>
            refine i_no rfl ?_
            repeat walk_at "g"
            exact key _ _ _ _ rfl
          | some yz =>
            refine i_yes rfl ?_
            repeat walk_at "g"
            rw [isNon_oi]
            cases o with
            | none =>
              refine i_yes rfl ?_
              repeat walk_at "g"
              exact key _ _ _ (some (xz + yz)) rfl
            | some oz =>
              refine i_no rfl ?_
              repeat walk_at "g"
              walk_at "gi"
              · repeat walk_at "g"
                exact key _ _ _ (some (xz + yz)) (congrArg some (by omega))
              · repeat walk_at "g"
                exact key _ _ _ (some oz) (congrArg some (by omega))
theorem lf_ok {d : Nat} {ds : List D} {S : Sto} {Q : D → Sto → Prop} (h : spLf true (d + 1) ds S Q) : b_least_filling (spLf true d) (fnE S Q) (ds.map some ++ [none, none, none, none]) S := by
  obtain ⟨b, l, top, n, p, t, ss, rfl, ht, hp, htop, hs, hd, q⟩ := h
  rw [if_pos rfl] at ht
  show b_least_filling (spLf true d) (fnE S Q) [some (.loc l), some (.tup (ss.map eN)), some (.int p), none, none, none, none] S
  unfold b_least_filling
  repeat walk_at "g"
  cases ss with
  | nil =>
    refine i_yes rfl ?_
    repeat walk_at "g"
    walk_at "gi"
    · rename_i e
      have e' : p = 0 := by omega
      subst e'
      repeat walk_at "g"
      exact i_fin q
    · rename_i e
      rw [show lf t [] p = none from if_neg (by omega)] at q
      repeat walk_at "g"
      exact i_fin q
  | cons s ss =>
    have hs0 : s < n := hs s List.mem_cons_self
    refine i_no rfl ?_
    obtain ⟨xs, r, e1, _, e2, e3⟩ := ht.row hs0
    repeat walk_at "g"
    cases ss with
    | nil =>
      refine i_yes rfl ?_
      repeat walk_at "g"
      refine i_ixL e1 e2 ?_
      repeat walk_at "g"
      refine i_ixL e3 (at_nat (rowD_at hp)) ?_
      exact i_fin q
    | cons s2 ss =>
      refine i_no (decide_eq_false (by simp only [List.map_cons, List.length_cons]; omega)) ?_
      repeat walk_at "g"
      refine ⟨⟨by omega, by omega, by omega, by omega⟩, ?_⟩
      rw [show ((p : Int) - 1).toNat = p - 1 by omega]
      refine each_rng (fun i γ S' => ∃ a4 a5 a6, γ = [some (.loc l), some (.tup ((s :: s2 :: ss).map eN)), some (.int p), some (oi (best ((List.range i).map fun i => comb (t (i + 1) s) (lf t (s2 :: ss) (p - (i + 1)))))), a4, a5, a6] ∧ S' = S) 1 (p - 1) ?_ ?_ ⟨none, none, none, rfl, rfl⟩
      · rintro γ S' ⟨a4, a5, a6, rfl, rfl⟩
        repeat walk_at "g"
        exact i_fin q
      · rintro i γ S' R hi ⟨a4, a5, a6, rfl, rfl⟩ k
        rw [show (1 : Int) + (i : Int) = ((i + 1 : Nat) : Int) by omega]
        repeat walk_at "g"
        refine i_ixT (at0 _ _) ?_
        repeat walk_at "g"
        refine i_ixL e1 e2 ?_
        repeat walk_at "g"
        refine i_ixL e3 (at_nat (rowD_at (by omega))) ?_
        have key : ∀ a4 a5 a6 o, o = best ((List.range (i + 1)).map fun i => comb (t (i + 1) s) (lf t (s2 :: ss) (p - (i + 1)))) → R [some (.loc l), some (.tup ((s :: s2 :: ss).map eN)), some (.int p), some (oi o), a4, a5, a6] S' := fun a4 a5 a6 o e => k _ _ ⟨a4, a5, a6, by rw [e], rfl⟩
        rw [best_rng] at key
        generalize best ((List.range i).map fun i => comb (t (i + 1) s) (lf t (s2 :: ss) (p - (i + 1)))) = o at key ⊢
        generalize hx : t (i + 1) s = x at key ⊢
        repeat walk_at "g"
        rw [cut1D, show (p : Int) - ((i + 1 : Nat) : Int) = ((p - (i + 1) : Nat) : Int) by omega]
        cases d with
        | zero => exact absurd hd (by simp only [List.length_cons]; omega)
        | succ d =>
        refine ⟨b, l, top, n, p - (i + 1), t, s2 :: ss, rfl, by rw [if_pos rfl]; exact ht, by omega, htop, fun x hx => hs x (List.mem_cons_of_mem _ hx), by simp only [List.length_cons] at hd ⊢; omega, ?_⟩
        generalize lf t (s2 :: ss) (p - (i + 1)) = y at key ⊢
        repeat walk_at "g"
        rw [isNon_oi]
        cases x with
        | none =>
          refine i_no rfl ?_
          repeat walk_at "g"
          exact key _ _ _ _ rfl
        | some xz =>
          refine i_yes rfl ?_
          repeat walk_at "g"
          rw [isNon_oi]
          cases y with
          | none =>
            refine i_no rfl ?_
            repeat walk_at "g"
            exact key _ _ _ _ rfl
          | some yz =>
            refine i_yes rfl ?_
            repeat walk_at "g"
            rw [isNon_oi]
            cases o with
            | none =>
              refine i_yes rfl ?_
              repeat walk_at "g"
              exact key _ _ _ (some (xz + yz)) rfl
            | some oz =>
              refine i_no rfl ?_
              repeat walk_at "g"
              walk_at "gi"
              · repeat walk_at "g"
                exact key _ _ _ (some (xz + yz)) (congrArg some (by omega))
              · repeat walk_at "g"
                exact key _ _ _ (some oz) (congrArg some (by omega))
end W
namespace W
/-! ### a case's told prices -/
def told (vars : List Vt) (st top : Nat) : D := .tup ((List.range top).map fun i => oi (ltb vars top (i + 1) st))
theorem ltb_le {vars : List Vt} {k m n s : Nat} (h : n ≤ k) (h2 : k ≤ m) : ltb vars m n s = ltb vars k n s := by rw [ltb_at h, ltb_at (Nat.le_trans h h2)]
def spCase : Rel := fun ds S Q => ∃ (T : Tape) (f : Fam) (B : Nat) (L : Sto), ds = [.loc 1, f.enc] ∧ FamG B f ∧ S = T.enc ++ L ∧ ∀ (T' : Tape) (X : Sto) (st top : Nat), st < f.count → 1 ≤ top → top ≤ 20 → Q (.tup [f.enc, eN st, eN top, told f.vars st top]) (T'.enc ++ (L ++ X))
theorem menu3 {k : Int} (h0 : 0 ≤ k) (h1 : k < 3) : ∃ m : Int, atI [D.int 5, .int 10, .int 20] k = some (.int m) ∧ 5 ≤ m ∧ m ≤ 20 := by
  have h : k = 0 ∨ k = 1 ∨ k = 2 := by omega
  rcases h with rfl | rfl | rfl
  · exact ⟨5, rfl, by decide, by decide⟩
  · exact ⟨10, rfl, by decide, by decide⟩
  · exact ⟨20, rfl, by decide, by decide⟩
/-- items of a list that a rule tells -/
theorem comp_at {tg : GG} {te : GT D} {γ0 : Sl} {Q : D → Sto → Prop} {lo : Int} {n : Nat} {S : Sto} (f : Nat → D) (hn : n ≤ 1000000) (h : ∀ i Y (Q : D → Sto → Prop), i < n → Q (f i) (S ++ Y) → tg (.int (lo + (i : Int))) γ0 (S ++ Y) fun γ2 S2 => te γ2 S2 Q) (q : Q (.loc S.length) (S ++ [.lst ((List.range n).map f)])) : comp (fun _ => True) tg bYes te S.length γ0 Q (rng lo n) (S ++ [.lst []]) := by
  refine comp_rng (fun i S' => S' = S ++ [.lst ((List.range i).map f)]) lo n (fun S' e => by rw [e]; exact q) ?_ rfl
  rintro i S' R hi rfl k
  show tg (.int (lo + (i : Int))) γ0 (S ++ [.lst ((List.range i).map f)]) fun γ2 S2 => if true = true then te γ2 S2 fun y S4 => match S4[S.length]? with
      | some (.lst acc) => acc.length < sizeLine ∧ R (S4.set S.length (.lst (acc ++ [y])))
      | _ => False
    else R S2
  have e : (fun γ2 S2 => if true = true then te γ2 S2 fun y S4 => match S4[S.length]? with
      | some (.lst acc) => acc.length < sizeLine ∧ R (S4.set S.length (.lst (acc ++ [y])))
      | _ => False
    else R S2) = fun γ2 S2 => te γ2 S2 fun y S4 => match S4[S.length]? with
      | some (.lst acc) => acc.length < sizeLine ∧ R (S4.set S.length (.lst (acc ++ [y])))
      | _ => False := funext fun _ => funext fun _ => if_pos rfl
  rw [e]
  refine h i _ _ hi ?_
  refine i_comp (xs := (List.range i).map f) (S := S ++ [.lst ((List.range i).map f)]) rowAt (small_lt (by simp; omega)) ?_
  refine k _ ?_
  rw [rowSet, List.range_succ, List.map_append, List.map_singleton]
theorem case_ok {ds : List D} {S : Sto} {Q : D → Sto → Prop} (h : spCase ds S Q) : b__law_case spDraw (spLf false 4) (fnE S Q) (ds.map some ++ List.replicate 8 none) S := by
  obtain ⟨T, f, B, L, rfl, hf, rfl, q⟩ := h
  obtain ⟨count, roots, vars⟩ := f
  show b__law_case spDraw (spLf false 4) (fnE (T.enc ++ L) Q) [some (.loc 1), some (.tup [eN count, .tup (roots.map eN), .tup (vars.map Vt.enc)]), none, none, none, none, none, none, none, none] (T.enc ++ L)
  have hmost : count ≤ 1000 := hf.most
  have hone : 1 ≤ count := hf.one
  unfold b__law_case
  repeat walk_at "g"
  rw [tape_len, List.append_assoc]
  refine use_draw (by decide) (by decide) fun k T1 hk0 hk1 => ?_
  obtain ⟨m, em, hm0, hm1⟩ := menu3 hk0 hk1
  repeat walk_at "g"
  refine i_ixL (look1 rfl) em ?_
  repeat walk_at "g"
  refine use_draw (by omega) (by omega) fun kt T2 ht0 ht1 => ?_
  obtain ⟨tp, rfl⟩ := nat_of ht0
  refine i_add ?_
  rw [show (1 : Int) + (tp : Int) = ((tp + 1 : Nat) : Int) by omega]
  have htop : tp + 1 ≤ 20 := by omega
  have htop1 : 1 ≤ tp + 1 := by omega
  generalize tp + 1 = top at htop htop1
  repeat walk_at "g"
  refine use_draw (by omega) (by omega) fun ks T3 hs0 hs1 => ?_
  obtain ⟨st, rfl⟩ := nat_of hs0
  have hst : st < count := by omega
  repeat walk_at "g"
  generalize hS : T3.enc ++ (L ++ [SO.lst [.int 5, .int 10, .int 20]]) = S1
  refine ⟨⟨by omega, by omega⟩, ?_⟩
  rw [show ((count : Int)).toNat = count from Int.toNat_natCast _]
  refine comp_const .non (by omega) (fun _ _ _ _ h => h _) (fun _ _ _ h => h) ?_
  repeat walk_at "g"
  refine ⟨⟨by omega, by omega, by omega, by omega⟩, ?_⟩
  rw [show ((top : Int) + 1 - 1).toNat = top by omega]
  refine each_rng (fun i γ S' => ∃ (X : Sto) (l : Nat) (a5 a6 a7 a8 : Option D), γ = [some (.loc 1), some (.tup [eN count, .tup (roots.map eN), .tup (vars.map Vt.enc)]), some (.int top), some (.int st), some (.loc l), a5, a6, a7, a8, none] ∧ S' = S1 ++ X ∧ Tab S1.length (S1 ++ X) l (i + 1) count (fun n s => oi (ltb vars i n s))) 1 top ?_ ?_ ⟨_, _, none, none, none, none, rfl, List.append_assoc _ _ _, ?_⟩
  · rintro γ S' ⟨X, l, a5, a6, a7, a8, rfl, rfl, ht⟩
    repeat walk_at "g"
    refine ⟨⟨by omega, by omega, by omega, by omega⟩, ?_⟩
    rw [show ((top : Int) + 1 - 1).toNat = top by omega]
    refine comp_at (fun i => oi (ltb vars top (i + 1) st)) (by omega) (fun i Y Q hi h => ?_) ?_
    · rw [show (1 : Int) + (i : Int) = ((i + 1 : Nat) : Int) by omega]
      obtain ⟨xs, r, e1, _, e2, e3⟩ := ht.row (i := i + 1) (by omega)
      repeat walk_at "g"
      refine i_ixL (up_app e1) e2 ?_
      repeat walk_at "g"
      refine i_ixL (up_app e3) (at_nat (rowD_at hst)) ?_
      exact h
    · repeat walk_at "g"
      refine i_tupleL rowAt ?_
      repeat walk_at "g"
      subst hS
      rw [List.append_assoc, List.append_assoc, List.append_assoc]
      exact i_fin (q T3 _ st top hst htop1 htop)
  · rintro i γ S' R hi ⟨X, l, a5, a6, a7, a8, rfl, rfl, ht⟩ k
    rw [show (1 : Int) + (i : Int) = ((i + 1 : Nat) : Int) by omega]
    repeat walk_at "g"
    refine ⟨⟨by omega, by omega⟩, ?_⟩
    rw [show ((count : Int)).toNat = count from Int.toNat_natCast _]
    refine comp_const .non (by omega) (fun _ _ _ _ h => h _) (fun _ _ _ h => h) ?_
    repeat walk_at "g"
    rw [rowD_rep]
    refine each_pre Vt.enc vars (fun pre γ S' => ∃ (a7 a8 : Option D), γ = [some (.loc 1), some (.tup [eN count, .tup (roots.map eN), .tup (vars.map Vt.enc)]), some (.int top), some (.int st), some (.loc l), some (.int ((i + 1 : Nat) : Int)), some (.loc (S1 ++ X).length), a7, a8, none] ∧ S' = (S1 ++ X) ++ .lst (rowD count fun s => oi (lvm pre (ltb vars i) (i + 1) s)) :: []) (fun _ _ _ _ => trivial) ?_ ?_ ⟨a7, a8, rfl, rfl⟩
    · rintro γ S' ⟨b7, b8, rfl, rfl⟩
      obtain ⟨xs, e1, e2, hb, ht2⟩ := ht.push (g := []) (f' := fun n s => oi (ltb vars (i + 1) n s)) (row := rowD count fun s => oi (lvm vars (ltb vars i) (i + 1) s)) rowD_len (fun s hs => by rw [rowD_at hs, show ltb vars (i + 1) (i + 1) s = lvm vars (ltb vars i) (i + 1) s from if_pos rfl]) (fun j s hj _ => congrArg oi (ltb_le (by omega) (by omega)))
      repeat walk_at "g"
      refine i_isl e1 ?_
      repeat walk_at "g"
      refine i_append e1 (small_lt (by omega)) ?_
      rw [List.append_assoc, set_base hb] at ht2 ⊢
      exact k _ _ ⟨_, l, _, _, _, _, rfl, rfl, ht2⟩
    · rintro pre v post γ S' R2 hv ⟨b7, b8, rfl, rfl⟩ k2
      have hvg : VtG count B v := hf.vars v (show v ∈ vars by rw [hv]; exact List.mem_append_right _ List.mem_cons_self)
      obtain ⟨pl, sl, pr⟩ := v
      have hplug : pl < count := hvg.plug
      have key : ∀ (o : Option Int) a7 a8, o = bet (lvm pre (ltb vars i) (i + 1) pl) (comb pr (lf (ltb vars i) sl i)) → R2 [some (.loc 1), some (.tup [eN count, .tup (roots.map eN), .tup (vars.map Vt.enc)]), some (.int top), some (.int st), some (.loc l), some (.int ((i + 1 : Nat) : Int)), some (.loc (S1 ++ X).length), a7, a8, none] ((S1 ++ X) ++ .lst ((rowD count fun s => oi (lvm pre (ltb vars i) (i + 1) s)).set pl (oi o)) :: []) := fun o a7 a8 e => by
        refine k2 _ _ ⟨a7, a8, rfl, ?_⟩
        rw [rowD_set (f' := fun s => oi (lvm (pre ++ [⟨pl, sl, pr⟩]) (ltb vars i) (i + 1) s)) (by rw [lvm_snoc, if_pos rfl, e]; rfl) (fun t ht => by rw [lvm_snoc, if_neg (fun z => ht z.symm)]; rfl)]
      have old : (rowD count fun s => oi (lvm pre (ltb vars i) (i + 1) s)).set pl (oi (lvm pre (ltb vars i) (i + 1) pl)) = rowD count fun s => oi (lvm pre (ltb vars i) (i + 1) s) := rowD_set rfl fun _ _ => rfl
      have hrow := at_nat (rowD_at (f := fun s => oi (lvm pre (ltb vars i) (i + 1) s)) hplug)
      generalize hrw : (rowD count fun s => oi (lvm pre (ltb vars i) (i + 1) s)) = row at key old hrow ⊢
      have hrl : row.length = count := by rw [← hrw, rowD_len]
      generalize hlv : lvm pre (ltb vars i) (i + 1) pl = o at key old hrow
      have keep : ∀ a7 a8, o = bet o (comb pr (lf (ltb vars i) sl i)) → R2 [some (.loc 1), some (.tup [eN count, .tup (roots.map eN), .tup (vars.map Vt.enc)]), some (.int top), some (.int st), some (.loc l), some (.int ((i + 1 : Nat) : Int)), some (.loc (S1 ++ X).length), a7, a8, none] ((S1 ++ X) ++ .lst row :: []) := fun a7 a8 e => by
        have z := key o a7 a8 e
        rw [old] at z
        exact z
      repeat walk_at "g"
      rw [isNon_oi]
      cases pr with
      | none =>
        refine i_no rfl ?_
        repeat walk_at "g"
        exact keep _ _ (by cases o <;> rfl)
      | some pz =>
        refine i_yes rfl ?_
        repeat walk_at "g"
        rw [show (((i + 1 : Nat) : Int)) - 1 = (i : Int) by omega]
        refine ⟨S1.length, l, i + 1, count, i, ltb vars i, sl, rfl, by rw [if_neg (by decide)]; exact ht.app, by omega, by omega, hvg.slots, hvg.few, ?_⟩
        generalize lf (ltb vars i) sl i = y at key keep ⊢
        repeat walk_at "g"
        rw [isNon_oi]
        cases y with
        | none =>
          refine i_no rfl ?_
          repeat walk_at "g"
          exact keep _ _ (by cases o <;> rfl)
        | some yz =>
          refine i_yes rfl ?_
          repeat walk_at "g"
          refine i_ixL rowAt hrow ?_
          repeat walk_at "g"
          rw [isNon_oi]
          cases o with
          | none =>
            refine i_yes rfl ?_
            repeat walk_at "g"
            refine i_setL rowAt (ix_nat (by omega)) ?_
            rw [rowSet]
            exact key (some (yz + pz)) _ _ (congrArg some (by omega))
          | some oz =>
            refine i_no rfl ?_
            repeat walk_at "g"
            refine i_ixL rowAt hrow ?_
            repeat walk_at "g"
            walk_at "gi"
            · repeat walk_at "g"
              refine i_setL rowAt (ix_nat (by omega)) ?_
              rw [rowSet]
              exact key (some (yz + pz)) _ _ (congrArg some (by omega))
            · repeat walk_at "g"
              exact keep _ _ (congrArg some (by omega))
  · have z := Tab.one (S0 := S1) (S := S1 ++ [.lst (List.replicate count .non)]) (r := S1.length) (row := List.replicate count .non) (n := count) (f := fun n s => oi (ltb vars 0 n s)) (Nat.le_refl _) rowAt List.length_replicate (fun s hs => by rw [rep_at hs]; rfl) (by rw [List.length_append]; omega)
    rw [List.append_assoc] at z
    exact z
end W
namespace W
theorem flat_rep {n : Nat} {d : D} : (List.replicate n [d]).flatten = List.replicate n d := by
  induction n with
  | zero => rfl
  | succ n ih => rw [List.replicate_succ, List.flatten_cons, ih, List.replicate_succ]; rfl
theorem i_mulL {S : Sto} {Q : D → Sto → Prop} {l : Nat} {xs : List D} {k : Int} (e : S[l]? = some (.lst xs)) (h : (-(2 ^ 63) ≤ k ∧ k < 2 ^ 63) ∧ xs.length * k.toNat ≤ sizeLine) (q : Q (.loc S.length) (S ++ [.lst (List.replicate k.toNat xs).flatten])) : dMul (.loc l) (.int k) S Q := by
  show (match S[l]? with
    | some (.lst a) => (-(2 ^ 63) ≤ k ∧ k < 2 ^ 63) ∧ a.length * k.toNat ≤ sizeLine ∧ Q (.loc S.length) (S ++ [.lst (List.replicate k.toNat a).flatten])
    | _ => False)
  rw [e]
  exact ⟨h.1, h.2, q⟩
def spBySize : Rel := fun ds S Q => ∃ (f : Fam) (B st most : Nat), ds = [f.enc, eN st, eN most] ∧ FamG B f ∧ st < f.count ∧ most ≤ 999 ∧ Q (told f.vars st most) S
/-- the table while variants are read -/
def utb (vars pre : List Vt) (i : Nat) (n s : Nat) : Option Int := if n = i + 1 then lvm pre (ltb vars i) (i + 1) s else ltb vars i n s
theorem utb_nil {vars : List Vt} {i : Nat} : utb vars [] i = ltb vars i := funext fun n => funext fun s => by
  unfold utb
  split
  · rename_i e
    rw [e, ltb_big (by omega)]
    rfl
  · rfl
theorem utb_all {vars : List Vt} {i : Nat} : utb vars vars i = ltb vars (i + 1) := rfl
theorem cutR {n : Nat} {f : Nat → D} : cutD (rowD (n + 1) f) (some 1) none = rowD n fun i => f (i + 1) := by
  unfold cutD
  rw [show HT.sIx (rowD (n + 1) f).length 0 (some 1) = min 1 (rowD (n + 1) f).length from HT.sIx_nat _ 0 1, HT.sIx_none, rowD_len, show min 1 (n + 1) = 1 by omega, Nat.add_sub_cancel]
  unfold rowD
  rw [List.range_succ_eq_map, List.map_cons, List.drop_one, List.tail_cons, List.map_map]
  rw [List.take_of_length_le (by simp)]
  rfl
theorem Cls_oi {n m : Nat} {f : Nat → Option Int} : G.Cls n ((List.range m).map fun i => oi (f i)) = true := Cls_of fun d hd => by
  obtain ⟨z, _, rfl⟩ := List.mem_map.mp hd
  exact oi_cl _
theorem told_cl {n : Nat} {vars : List Vt} {st m : Nat} : G.Cl n (told vars st m) = true := by
  unfold told G.Cl
  exact Cls_oi
theorem bySize_ok {ds : List D} {S : Sto} {Q : D → Sto → Prop} (h : spBySize ds S Q) (c : ClS S) : b_least_by_size (spLf true 4) (fnE S Q) (ds.map some ++ List.replicate 7 none) S := by
  obtain ⟨f, B, st, most, rfl, hf, hst, hm, q⟩ := h
  obtain ⟨count, roots, vars⟩ := f
  show b_least_by_size (spLf true 4) (fnE S Q) [some (.tup [eN count, .tup (roots.map eN), .tup (vars.map Vt.enc)]), some (.int st), some (.int most), none, none, none, none, none, none, none] S
  have hmost : count ≤ 1000 := hf.most
  unfold b_least_by_size
  repeat walk_at "g"
  refine ⟨⟨by omega, by omega⟩, ?_⟩
  rw [show ((count : Int)).toNat = count from Int.toNat_natCast _]
  refine comp_rng (fun i S' => ∃ (ls : List Nat) (G : Sto), S' = S ++ .lst (ls.map .loc) :: G ∧ ls.length = i ∧ ls.Nodup ∧ ∀ q ∈ ls, ∃ j, q = S.length + 1 + j ∧ G[j]? = some (.lst (List.replicate (most + 1) .non))) 0 count ?_ ?_ ⟨[], [], rfl, rfl, .nil, fun _ h => absurd h List.not_mem_nil⟩
  · rintro S' ⟨ls, G, rfl, hl1, hl2, hl3⟩
    have tab0 : Tab S.length (S ++ .lst (ls.map .loc) :: G) S.length count (most + 1) (fun s n => oi (ltb vars 0 n s)) := by
      refine ⟨ls, rowAt, Nat.le_refl _, hl1, hl2, fun z => ?_, fun i hi => ?_⟩
      · obtain ⟨j, e, _⟩ := hl3 _ z
        omega
      · have hi' : i < ls.length := by omega
        obtain ⟨j, e1, e2⟩ := hl3 ls[i] (List.getElem_mem hi')
        refine ⟨ls[i], _, List.getElem?_eq_getElem hi', by omega, ?_, List.length_replicate, fun s hs => by rw [rep_at hs]; rfl⟩
        rw [e1, List.getElem?_append_right (by omega), show S.length + 1 + j - S.length = j + 1 by omega]
        exact e2
    repeat walk_at "g"
    refine ⟨⟨by omega, by omega, by omega, by omega⟩, ?_⟩
    rw [show ((most : Int) + 1 - 1).toNat = most by omega]
    refine each_rng (fun i γ S' => ∃ (Y : Sto) (a4 a5 a6 a7 a8 : Option D), γ = [some (.tup [eN count, .tup (roots.map eN), .tup (vars.map Vt.enc)]), some (.int st), some (.int most), some (.loc S.length), a4, a5, a6, a7, a8, none] ∧ S' = S ++ Y ∧ Tab S.length (S ++ Y) S.length count (most + 1) (fun s n => oi (ltb vars i n s))) 1 most ?_ ?_ ⟨_, none, none, none, none, none, rfl, rfl, tab0⟩
    · rintro γ S' ⟨Y, a4, a5, a6, a7, a8, rfl, rfl, ht⟩
      obtain ⟨xs, r, e1, _, e2, e3⟩ := ht.row hst
      repeat walk_at "g"
      refine i_ixL e1 e2 ?_
      repeat walk_at "g"
      refine i_slL e3 ?_
      repeat walk_at "g"
      refine i_tupleL rowAt ?_
      rw [cutR, List.append_assoc]
      exact kp_pre c (Nat.le_refl _) told_cl q
    · rintro i γ S' R hi ⟨Y, a4, a5, a6, a7, a8, rfl, rfl, ht⟩ k
      rw [show (1 : Int) + (i : Int) = ((i + 1 : Nat) : Int) by omega]
      repeat walk_at "g"
      refine each_pre Vt.enc vars (fun pre γ S' => ∃ (Y : Sto) (a5 a6 a7 a8 : Option D), γ = [some (.tup [eN count, .tup (roots.map eN), .tup (vars.map Vt.enc)]), some (.int st), some (.int most), some (.loc S.length), some (.int ((i + 1 : Nat) : Int)), a5, a6, a7, a8, none] ∧ S' = S ++ Y ∧ Tab S.length (S ++ Y) S.length count (most + 1) (fun s n => oi (utb vars pre i n s))) (fun _ _ _ _ => trivial) ?_ ?_ ⟨Y, a5, a6, a7, a8, rfl, rfl, by rw [utb_nil]; exact ht⟩
      · rintro γ S' ⟨Y, b5, b6, b7, b8, rfl, rfl, ht⟩
        exact k _ _ ⟨Y, _, _, _, _, _, rfl, rfl, ht⟩
      · rintro pre v post γ S' R2 hv ⟨Y, b5, b6, b7, b8, rfl, rfl, ht⟩ k2
        have hvg : VtG count B v := hf.vars v (show v ∈ vars by rw [hv]; exact List.mem_append_right _ List.mem_cons_self)
        obtain ⟨pl, sl, pr⟩ := v
        have hplug : pl < count := hvg.plug
        have new : ∀ n s, utb vars (pre ++ [⟨pl, sl, pr⟩]) i n s = if n = i + 1 ∧ s = pl then bet (utb vars pre i n s) (comb pr (lf (ltb vars i) sl i)) else utb vars pre i n s := fun n s => by
          unfold utb
          by_cases e1 : n = i + 1
          · rw [if_pos e1, if_pos e1, lvm_snoc]
            by_cases e2 : s = pl
            · rw [if_pos (show (⟨pl, sl, pr⟩ : Vt).plug = s from e2.symm), if_pos ⟨e1, e2⟩]
              rfl
            · rw [if_neg (show ¬ (⟨pl, sl, pr⟩ : Vt).plug = s from fun z => e2 z.symm), if_neg (fun z => e2 z.2)]
              rfl
          · rw [if_neg e1, if_neg e1, if_neg (fun z => e1 z.1)]
        have keep : ∀ a5 a6 a7 a8, utb vars pre i (i + 1) pl = bet (utb vars pre i (i + 1) pl) (comb pr (lf (ltb vars i) sl i)) → R2 [some (.tup [eN count, .tup (roots.map eN), .tup (vars.map Vt.enc)]), some (.int st), some (.int most), some (.loc S.length), some (.int ((i + 1 : Nat) : Int)), a5, a6, a7, a8, none] (S ++ Y) := fun a5 a6 a7 a8 e => k2 _ _ ⟨Y, _, _, _, _, rfl, rfl, ht.congr fun s n _ _ => by
          rw [new]
          split
          · rename_i z
            rw [z.1, z.2, ← e]
          · rfl⟩
        obtain ⟨xs, r, e1, _, e2, e3⟩ := ht.row hplug
        have e4 := at_nat (rowD_at (f := fun n => oi (utb vars pre i n pl)) (show i + 1 < most + 1 by omega))
        have put : ∀ (o : Option Int) a5 a6 a7 a8, o = bet (utb vars pre i (i + 1) pl) (comb pr (lf (ltb vars i) sl i)) → dSet (.loc r) (.int ((i + 1 : Nat) : Int)) (oi o) (S ++ Y) (fun S' => R2 [some (.tup [eN count, .tup (roots.map eN), .tup (vars.map Vt.enc)]), some (.int st), some (.int most), some (.loc S.length), some (.int ((i + 1 : Nat) : Int)), a5, a6, a7, a8, none] S') := fun o a5 a6 a7 a8 e => by
          obtain ⟨xs2, ys, r2, g1, g2, g3, g4, hb, ht2⟩ := ht.upd (i := pl) (s := i + 1) hplug (by omega) (oi o) (f' := fun s n => oi (utb vars (pre ++ [⟨pl, sl, pr⟩]) i n s)) (by rw [new, if_pos ⟨rfl, rfl⟩, e]) (fun j t _ _ z => by rw [new, if_neg (fun y => z y.2 y.1)])
          rw [e1] at g1
          cases g1
          rw [e2] at g2
          cases g2
          refine i_setL g3 g4 ?_
          rw [set_base hb] at ht2 ⊢
          exact k2 _ _ ⟨_, _, _, _, _, rfl, rfl, ht2⟩
        have hlf : lf (utb vars pre i) sl i = lf (ltb vars i) sl i := lf_congr sl i fun n s hn => if_neg (by omega)
        repeat walk_at "g"
        rw [isNon_oi]
        cases pr with
        | none =>
          refine i_yes rfl ?_
          repeat walk_at "g"
          refine i_no rfl ?_
          repeat walk_at "g"
          exact keep _ _ _ _ (by cases utb vars pre i (i + 1) pl <;> rfl)
        | some pz =>
          refine i_no rfl ?_
          repeat walk_at "g"
          rw [show (((i + 1 : Nat) : Int)) - 1 = (i : Int) by omega]
          refine ⟨S.length, S.length, most + 1, count, i, utb vars pre i, sl, rfl, by rw [if_pos rfl]; exact ht, by omega, by omega, hvg.slots, hvg.few, ?_⟩
          rw [hlf]
          generalize lf (ltb vars i) sl i = y at put keep ⊢
          repeat walk_at "g"
          rw [isNon_oi]
          cases y with
          | none =>
            refine i_no rfl ?_
            repeat walk_at "g"
            exact keep _ _ _ _ (by cases utb vars pre i (i + 1) pl <;> rfl)
          | some yz =>
            refine i_yes rfl ?_
            repeat walk_at "g"
            refine i_ixL e1 e2 ?_
            repeat walk_at "g"
            refine i_ixL e3 e4 ?_
            generalize utb vars pre i (i + 1) pl = o at put keep e4 ⊢
            repeat walk_at "g"
            rw [isNon_oi]
            cases o with
            | none =>
              refine i_yes rfl ?_
              repeat walk_at "g"
              refine i_ixL e1 e2 ?_
              repeat walk_at "g"
              exact put (some (pz + yz)) _ _ _ _ rfl
            | some oz =>
              refine i_no rfl ?_
              repeat walk_at "g"
              refine i_ixL e1 e2 ?_
              repeat walk_at "g"
              refine i_ixL e3 e4 ?_
              repeat walk_at "g"
              walk_at "gi"
              · repeat walk_at "g"
                refine i_ixL e1 e2 ?_
                repeat walk_at "g"
                exact put (some (pz + yz)) _ _ _ _ (congrArg some (by omega))
              · repeat walk_at "g"
                exact keep _ _ _ _ (congrArg some (by omega))
  · rintro i S' R hi ⟨ls, G, rfl, hl1, hl2, hl3⟩ k
    repeat walk_at "g"
    refine i_mulL rowAt ⟨⟨by omega, by omega⟩, small_size (by show 1 * _ ≤ _; omega)⟩ ?_
    rw [flat_rep, show ((most : Int) + 1).toNat = most + 1 by omega, List.append_assoc, List.append_assoc, List.cons_append]
    repeat walk_at "g"
    refine i_comp rowAt (small_lt (by rw [List.length_map]; omega)) ?_
    rw [rowSet]
    refine k _ ⟨ls ++ [S.length + 1 + (G.length + 1)], G ++ ([.lst [.non]] ++ [.lst (List.replicate (most + 1) .non)]), ?_, by rw [List.length_append, hl1]; rfl, ?_, fun q hq => ?_⟩
    · rw [← map_snoc]
      congr 5
      simp
      omega
    · refine List.nodup_append.mpr ⟨hl2, by simp, fun x hx y hy => ?_⟩
      rw [List.mem_singleton.mp hy]
      obtain ⟨j, e1, e2⟩ := hl3 x hx
      have := (List.getElem?_eq_some_iff.mp e2).1
      omega
    · rcases List.mem_append.mp hq with hq | hq
      · obtain ⟨j, e1, e2⟩ := hl3 q hq
        exact ⟨j, e1, up_app e2⟩
      · refine ⟨G.length + 1, List.mem_singleton.mp hq, ?_⟩
        rw [List.getElem?_append_right (by omega), show G.length + 1 - G.length = 1 by omega]
        rfl
end W
namespace W
/-! ### the same and of the same text -/
def spSame : Rel := fun ds S Q => ∃ (xs : List D) (p : PyData), ds = [.tup xs, .tup xs] ∧ toP (.tup xs) = some p ∧ p.hasDict = false ∧ SeqAt.shaped p = true ∧ p.showable = true ∧ p.shown.length ≤ sizeLine ∧ Q (.bl true) S
theorem i_eqP {x y : D} {p q : PyData} {S : Sto} {Q : D → Sto → Prop} (h : ∀ i, x ≠ .int i) (hs : ∀ i, x ≠ .str i) (e1 : toP x = some p) (e2 : toP y = some q) (s1 : SeqAt.shaped p = true) (s2 : SeqAt.shaped q = true) (r : Q (.bl (PyData.eqv p q)) S) : dEq false x y S Q := by
  unfold dEq
  split
  · exact absurd rfl (h _)
  · exact absurd rfl (hs _)
  · rw [e1, e2]
    refine ⟨s1, s2, ?_⟩
    rw [Bool.false_xor]
    exact r
theorem i_repr {x : D} {p : PyData} {S : Sto} {Q : D → Sto → Prop} (e : toP x = some p) (h1 : p.hasDict = false) (h2 : p.depth ≤ 64) (h3 : p.showable = true) (h4 : p.shown.length ≤ sizeLine) (q : Q (.str p.shown) S) : bRepr [x] S Q := by
  show (match toP x with
    | some d => d.hasDict = false ∧ d.depth ≤ 64 ∧ d.showable = true ∧ d.shown.length ≤ sizeLine ∧ Q (.str d.shown) S
    | none => False)
  rw [e]
  exact ⟨h1, h2, h3, h4, q⟩
theorem same_ok {ds : List D} {S : Sto} {Q : D → Sto → Prop} (h : spSame ds S Q) : b__law_same (fnE S Q) (ds.map some ++ []) S := by
  obtain ⟨xs, p, rfl, e, h1, h2, h3, h4, q⟩ := h
  show b__law_same (fnE S Q) [some (.tup xs), some (.tup xs)] S
  unfold b__law_same
  have hl := SeqAt.canLay_of_shaped h2
  have hd := SeqAt.depth_of_shaped h2
  repeat walk_at "g"
  refine i_eqP (fun _ => nofun) (fun _ => nofun) e e h2 h2 ?_
  rw [SeqAt.eqv_refl p hl]
  repeat walk_at "g"
  refine i_repr e h1 hd h3 h4 ?_
  repeat walk_at "g"
  refine i_repr e h1 hd h3 h4 ?_
  repeat walk_at "g"
  rw [decide_eq_true rfl]
  exact i_fin q
/-- numbers and None as told -/
def oiP : Option Int → PyData
  | none => .none
  | some i => .int i
theorem toPs_oi (xs : List (Option Int)) : toPs (xs.map oi) = some (xs.map oiP) := by
  induction xs with
  | nil => rfl
  | cons x xs ih =>
    show (match toP (oi x), toPs (xs.map oi) with
      | some p, some ps => some (p :: ps)
      | _, _ => none) = _
    rw [ih]
    cases x <;> rfl
theorem int_len {i : Int} (h : i.natAbs < 2 ^ 200) : (PyData.shown (.int i)).length ≤ 256 := by
  have hlog : i.natAbs.log2 < 200 := by
    by_cases z : i.natAbs = 0
    · rw [z]
      exact Nat.lt_of_lt_of_le (by decide : (0 : Nat).log2 < 1) (by decide)
    · exact (Nat.log2_lt z).mpr h
  show (Str.ofString (toString i)).length ≤ 256
  rw [ofString_length]
  exact Nat.le_trans (int_text_length_le (k := 200) (by decide) hlog) (by decide)
theorem oi_fine (xs : List (Option Int)) (h : ∀ i, some i ∈ xs → i.natAbs < 2 ^ 200) : PyData.hasDictAll (xs.map oiP) = false ∧ PyData.canLayAll0 (xs.map oiP) = true ∧ PyData.depthAll (xs.map oiP) = 0 ∧ PyData.showableAll (xs.map oiP) = true ∧ PyData.leavesShortAll 256 (xs.map oiP) = true ∧ PyData.weightAll (xs.map oiP) ≤ 256 * xs.length := by
  induction xs with
  | nil => exact ⟨rfl, rfl, rfl, rfl, rfl, Nat.le_refl _⟩
  | cons x xs ih =>
    obtain ⟨a1, a2, a3, a4, a5, a6⟩ := ih fun i hi => h i (List.mem_cons_of_mem _ hi)
    have key : (oiP x).hasDict = false ∧ (oiP x).canLay0 = true ∧ (oiP x).depth = 0 ∧ (oiP x).showable = true ∧ (oiP x).leavesShort 256 = true ∧ (oiP x).weight ≤ 255 := by
      cases x with
      | none => exact ⟨rfl, rfl, rfl, rfl, rfl, Nat.zero_le _⟩
      | some i =>
        have hi := h i List.mem_cons_self
        have hlog : i.natAbs.log2 ≤ 200 := by
          by_cases z : i.natAbs = 0
          · rw [z]
            exact Nat.zero_le _
          · exact Nat.le_of_lt ((Nat.log2_lt z).mpr hi)
        refine ⟨rfl, rfl, rfl, decide_eq_true (by omega), decide_eq_true (int_len hi), ?_⟩
        show (if (i == 0) = true then 0 else i.natAbs.log2 + 1) ≤ 255
        split <;> omega
    obtain ⟨b1, b2, b3, b4, b5, b6⟩ := key
    rw [List.map_cons]
    refine ⟨?_, ?_, ?_, ?_, ?_, ?_⟩
    · rw [PyData.hasDictAll, b1, a1]; rfl
    · rw [PyData.canLayAll0, b2, a2]; rfl
    · rw [PyData.depthAll, b3, a3]; rfl
    · rw [PyData.showableAll, b4, a4]; rfl
    · rw [PyData.leavesShortAll, b5, a5]; rfl
    · rw [PyData.weightAll, List.length_cons]
      omega
theorem use_same {xs : List (Option Int)} {S : Sto} {Q : D → Sto → Prop} (h : ∀ i, some i ∈ xs → i.natAbs < 2 ^ 200) (hn : xs.length ≤ 100) (q : Q (.bl true) S) : spSame [.tup (xs.map oi), .tup (xs.map oi)] S Q := by
  obtain ⟨a1, a2, a3, a4, a5, a6⟩ := oi_fine xs h
  refine ⟨_, .tuple (xs.map oiP), rfl, ?_, ?_, ?_, ?_, ?_, q⟩
  · show (toPs (xs.map oi)).map PyData.tuple = _
    rw [toPs_oi]
    rfl
  · rw [PyData.hasDict]
    exact a1
  · unfold SeqAt.shaped
    rw [PyData.canLay0, a2, PyData.depth, a3]
    rfl
  · rw [PyData.showable]
    exact a4
  · have z := PyData.shown_le 256 (by decide) (.tuple (xs.map oiP)) (by rw [PyData.leavesShort]; exact a5)
    rw [PyData.weight] at z
    refine Nat.le_trans z (Nat.le_trans (m := 7000000) ?_ (by decide))
    omega
/-! ### sizes (no program here) -/
@[reducible] def on : Option Nat → D
  | none => .non
  | some n => eN n
theorem isNon_on (p : Option Nat) : isNon (on p) = p.isNone := by cases p <;> rfl
abbrev Szs := Nat → Option Nat
def addO : Option Nat → Option Nat → Option Nat
  | some a, some b => some (a + b)
  | _, _ => none
def szs (σ : Szs) : List Nat → Option Nat
  | [] => some 0
  | s :: ss => addO (σ s) (szs σ ss)
def siz (σ : Szs) (v : Vt) : Option Nat := match v.price with
  | none => none
  | some _ => addO (some 1) (szs σ v.slots)
/-- a tree of so many parts is there -/
def Tn (vars : List Vt) (s n : Nat) : Prop := ∃ x, x ∈ tb vars n n s
def good (σ : Szs) (s n : Nat) : Prop := ∃ z, σ s = some z ∧ z ≤ n
def leS (σ τ : Szs) : Prop := ∀ s n, good τ s n → good σ s n
theorem leS.refl (σ : Szs) : leS σ σ := fun _ _ h => h
theorem leS.trans {a b c : Szs} (h : leS a b) (k : leS b c) : leS a c := fun s n g => h s n (k s n g)
theorem szs_le {σ τ : Szs} (h : leS σ τ) : ∀ {ss : List Nat} {b : Nat}, szs τ ss = some b → ∃ a, szs σ ss = some a ∧ a ≤ b
  | [], b, e => ⟨0, rfl, Nat.zero_le _⟩
  | s :: ss, b, e => by
    unfold szs at e ⊢
    cases e1 : τ s with
    | none => rw [e1] at e; cases e
    | some x =>
      cases e2 : szs τ ss with
      | none => rw [e1, e2] at e; cases e
      | some y =>
        rw [e1, e2] at e
        cases e
        obtain ⟨x', g1, g2⟩ := h s x ⟨x, e1, Nat.le_refl _⟩
        obtain ⟨y', g3, g4⟩ := szs_le h e2
        rw [g1, g3]
        exact ⟨x' + y', rfl, by omega⟩
theorem siz_le {σ τ : Szs} (h : leS σ τ) {v : Vt} {b : Nat} (e : siz τ v = some b) : ∃ a, siz σ v = some a ∧ a ≤ b := by
  unfold siz at e ⊢
  cases hp : v.price with
  | none => rw [hp] at e; cases e
  | some p =>
    rw [hp] at e
    dsimp only at e ⊢
    cases e2 : szs τ v.slots with
    | none => rw [e2] at e; cases e
    | some y =>
      rw [e2] at e
      cases e
      obtain ⟨a, g1, g2⟩ := szs_le h e2
      rw [g1]
      exact ⟨1 + a, rfl, by omega⟩
theorem siz_pos {σ : Szs} {v : Vt} {b : Nat} (e : siz σ v = some b) : 1 ≤ b := by
  unfold siz at e
  cases hp : v.price with
  | none => rw [hp] at e; cases e
  | some p =>
    rw [hp] at e
    dsimp only at e
    cases e2 : szs σ v.slots with
    | none => rw [e2] at e; cases e
    | some y =>
      rw [e2] at e
      cases e
      omega
theorem fil_mk {vars : List Vt} {σ : Szs} (h : ∀ s z, σ s = some z → 1 ≤ z ∧ Tn vars s z) (k : Nat) : ∀ (ss : List Nat) (b : Nat), szs σ ss = some b → b ≤ k → ∃ y, y ∈ fil (tb vars k) ss b
  | [], b, e, _ => by
    cases e
    exact ⟨(0, []), List.mem_singleton.mpr rfl⟩
  | s :: ss, b, e, hk => by
    unfold szs at e
    cases e1 : σ s with
    | none => rw [e1] at e; cases e
    | some x =>
      cases e2 : szs σ ss with
      | none => rw [e1, e2] at e; cases e
      | some y =>
        rw [e1, e2] at e
        cases e
        obtain ⟨h1, a, ha⟩ := h s x e1
        obtain ⟨w, hw⟩ := fil_mk h k ss y e2 (by omega)
        refine ⟨(a.1 + w.1, a.2 ++ w.2), ?_⟩
        unfold fil
        refine List.mem_flatMap.mpr ⟨x - 1, List.mem_range.mpr (by omega), List.mem_flatMap.mpr ⟨w, ?_, List.mem_map.mpr ⟨a, ?_, rfl⟩⟩⟩
        · rw [show x + y - (x - 1 + 1) = y by omega]
          exact hw
        · rw [show x - 1 + 1 = x by omega, tb_at (by omega)]
          exact ha
theorem mem_lvl {vars : List Vt} {r : Nat → Nat → List Tr} {n s k : Nat} {v : Vt} {p : Int} {y : Tr} (hv : vars[k]? = some v) (hs : v.plug = s) (hp : v.price = some p) (hy : y ∈ fil r v.slots (n - 1)) : (p + y.1, k :: y.2) ∈ lvl vars r n s := by
  unfold lvl
  refine List.mem_flatMap.mpr ⟨(v, k), List.mem_of_getElem? (zip_at hv), ?_⟩
  unfold lvlV
  dsimp only
  rw [hp]
  dsimp only
  rw [if_pos hs]
  exact List.mem_map.mpr ⟨y, hy, rfl⟩
theorem siz_T {vars : List Vt} {σ : Szs} (h : ∀ s z, σ s = some z → 1 ≤ z ∧ Tn vars s z) {v : Vt} (hv : v ∈ vars) {z : Nat} (e : siz σ v = some z) : Tn vars v.plug z := by
  unfold siz at e
  cases hp : v.price with
  | none => rw [hp] at e; cases e
  | some p =>
    rw [hp] at e
    dsimp only at e
    cases e2 : szs σ v.slots with
    | none => rw [e2] at e; cases e
    | some y =>
      rw [e2] at e
      cases e
      obtain ⟨w, hw⟩ := fil_mk h y v.slots y e2 (Nat.le_refl _)
      obtain ⟨k, hk, e3⟩ := List.getElem_of_mem hv
      refine ⟨(p + w.1, k :: w.2), ?_⟩
      rw [Nat.add_comm 1 y, tb_lvl]
      exact mem_lvl (by rw [List.getElem?_eq_getElem hk, e3]) rfl hp hw
theorem fil_good {vars : List Vt} {σ : Szs} {k : Nat} (h : ∀ s n, n ≤ k → Tn vars s n → good σ s n) : ∀ (ss : List Nat) (p : Nat) (y : Tr), p ≤ k → y ∈ fil (tb vars k) ss p → ∃ b, szs σ ss = some b ∧ b ≤ p
  | [], p, y, _, _ => ⟨0, rfl, Nat.zero_le _⟩
  | s :: ss, p, y, hp, hy => by
    unfold fil at hy
    obtain ⟨i, hi, hy⟩ := List.mem_flatMap.mp hy
    obtain ⟨w, hw, hy⟩ := List.mem_flatMap.mp hy
    obtain ⟨a, ha, _⟩ := List.mem_map.mp hy
    have hi' := List.mem_range.mp hi
    rw [tb_at (by omega)] at ha
    obtain ⟨x, e1, g1⟩ := h s (i + 1) (by omega) ⟨a, ha⟩
    obtain ⟨b, e2, g2⟩ := fil_good h ss (p - (i + 1)) w (by omega) hw
    unfold szs
    rw [e1, e2]
    exact ⟨x + b, rfl, by omega⟩
theorem T_split {vars : List Vt} {s n : Nat} (h : Tn vars s n) : ∃ k v y, n = k + 1 ∧ v ∈ vars ∧ v.plug = s ∧ v.price.isSome = true ∧ y ∈ fil (tb vars k) v.slots k := by
  obtain ⟨x, hx⟩ := h
  cases n with
  | zero => cases hx
  | succ k =>
    rw [tb_lvl] at hx
    unfold lvl at hx
    obtain ⟨⟨v, j⟩, hv, hx⟩ := List.mem_flatMap.mp hx
    have hv' : v ∈ vars := by
      have := List.mem_zipIdx hv
      rw [this.2.2]
      exact List.getElem_mem _
    unfold lvlV at hx
    cases hp : v.price with
    | none =>
      dsimp only at hx
      rw [hp] at hx
      cases hx
    | some p =>
      dsimp only at hx
      rw [hp] at hx
      dsimp only at hx
      split at hx
      · obtain ⟨y, hy, _⟩ := List.mem_map.mp hx
        exact ⟨k, v, y, rfl, hv', by assumption, by rw [hp]; rfl, hy⟩
      · cases hx
/-- one turn of the sizes -/
structure Turn (vars : List Vt) (σ τ : Szs) : Prop where
  le : leS τ σ
  all : ∀ v ∈ vars, ∀ z, siz σ v = some z → good τ v.plug z
structure SzI (vars : List Vt) (σ : Szs) : Prop where
  sound : ∀ s z, σ s = some z → 1 ≤ z ∧ Tn vars s z
  by_ : ∀ s z, σ s = some z → ∃ v ∈ vars, v.plug = s ∧ ∃ y, siz σ v = some y ∧ y ≤ z
def FinS (vars : List Vt) (σ : Szs) (s : Nat) : Prop := ∀ n, Tn vars s n → good σ s n
theorem pig : ∀ (l m : List Nat), l.Nodup → (∀ x ∈ l, x ∈ m) → m.length ≤ l.length → ∀ x ∈ m, x ∈ l
  | [], m, _, _, h, x, hx => by
    have : m = [] := List.length_eq_zero_iff.mp (by simpa using h)
    rw [this] at hx
    cases hx
  | a :: l, m, hn, hs, h, x, hx => by
    obtain ⟨h1, h2⟩ := List.nodup_cons.mp hn
    have ha := hs a List.mem_cons_self
    have hl := List.length_erase_of_mem ha
    have z := pig l (m.erase a) h2 (fun y hy => (List.mem_erase_of_ne (fun (e : y = a) => h1 (by rw [← e]; exact hy))).mpr (hs y (List.mem_cons_of_mem _ hy))) (by rw [hl, List.length_cons] at *; omega)
    by_cases e : x = a
    · rw [e]
      exact List.mem_cons_self
    · exact List.mem_cons_of_mem _ (z x ((List.mem_erase_of_ne e).mpr hx))
def Gd (vars : List Vt) (count t : Nat) (σ : Szs) : Prop := (∀ s, s < count → FinS vars σ s) ∨ ∃ fs : List Nat, fs.Nodup ∧ fs.length = t ∧ ∀ s ∈ fs, s < count ∧ FinS vars σ s
theorem FinS.le {vars : List Vt} {σ τ : Szs} {s : Nat} (h : FinS vars σ s) (l : leS τ σ) : FinS vars τ s := fun n t => l s n (h n t)
theorem Gd.next {vars : List Vt} {count t : Nat} {σ τ : Szs} (hv : ∀ v ∈ vars, v.plug < count ∧ ∀ s ∈ v.slots, s < count) (h : Gd vars count t σ) (q : Turn vars σ τ) : Gd vars count (t + 1) τ := by
  rcases h with h | ⟨fs, h1, h2, h3⟩
  · exact .inl fun s hs => (h s hs).le q.le
  · by_cases all : ∀ s, s < count → FinS vars σ s
    · exact .inl fun s hs => (all s hs).le q.le
    · -- a least bad size
      have bad : ∃ n, ∃ s, s < count ∧ Tn vars s n ∧ ¬ good σ s n := by
        refine Classical.byContradiction fun no => all fun s hs n hn => Classical.byContradiction fun hg => no ⟨n, s, hs, hn, hg⟩
      obtain ⟨n0, hn0⟩ := bad
      have least : ∃ n, (∃ s, s < count ∧ Tn vars s n ∧ ¬ good σ s n) ∧ ∀ m, m < n → ¬ ∃ s, s < count ∧ Tn vars s m ∧ ¬ good σ s m := by
        induction n0 using Nat.strongRecOn with
        | _ n ih =>
          by_cases e : ∃ m, m < n ∧ ∃ s, s < count ∧ Tn vars s m ∧ ¬ good σ s m
          · obtain ⟨m, hm, hx⟩ := e
            exact ih m hm hx
          · exact ⟨n, hn0, fun m hm hx => e ⟨m, hm, hx⟩⟩
      obtain ⟨n, ⟨s, hs, hT, hg⟩, hl⟩ := least
      have below : ∀ s' m, s' < count → m < n → Tn vars s' m → good σ s' m := fun s' m hs' hm hT' => Classical.byContradiction fun hg' => hl m hm ⟨s', hs', hT', hg'⟩
      refine .inr ⟨s :: fs, List.nodup_cons.mpr ⟨fun hm => hg ((h3 s hm).2 n hT), h1⟩, by rw [List.length_cons, h2], fun x hx => ?_⟩
      rcases List.mem_cons.mp hx with rfl | hx
      · refine ⟨hs, fun m hm => ?_⟩
        have now : good τ x n := by
          obtain ⟨k, v, y, e, hv1, hv2, hv3, hy⟩ := T_split hT
          subst e
          have hgood : ∀ (ss : List Nat) (p : Nat) (y : Tr), (∀ s ∈ ss, s < count) → p ≤ k → y ∈ fil (tb vars k) ss p → ∃ b, szs σ ss = some b ∧ b ≤ p := by
            intro ss
            induction ss with
            | nil => exact fun p y _ _ _ => ⟨0, rfl, Nat.zero_le _⟩
            | cons s' ss ih =>
              intro p y hc hp hy
              unfold fil at hy
              obtain ⟨i, hi, hy⟩ := List.mem_flatMap.mp hy
              obtain ⟨w, hw, hy⟩ := List.mem_flatMap.mp hy
              obtain ⟨a, ha, _⟩ := List.mem_map.mp hy
              have hi' := List.mem_range.mp hi
              rw [tb_at (by omega)] at ha
              obtain ⟨x', e1, g1⟩ := below s' (i + 1) (hc s' List.mem_cons_self) (by omega) ⟨a, ha⟩
              obtain ⟨b, e2, g2⟩ := ih (p - (i + 1)) w (fun z hz => hc z (List.mem_cons_of_mem _ hz)) (by omega) hw
              unfold szs
              rw [e1, e2]
              exact ⟨x' + b, rfl, by omega⟩
          obtain ⟨b, e1, e2⟩ := hgood v.slots k y (hv v hv1).2 (Nat.le_refl _) hy
          have e3 : siz σ v = some (1 + b) := by
            unfold siz
            cases hp : v.price with
            | none => rw [hp] at hv3; cases hv3
            | some p =>
              dsimp only
              rw [e1]
              rfl
          obtain ⟨z, g1, g2⟩ := q.all v hv1 _ e3
          rw [hv2] at g1
          exact ⟨z, g1, by omega⟩
        by_cases e : n ≤ m
        · obtain ⟨z, g1, g2⟩ := now
          exact ⟨z, g1, by omega⟩
        · exact q.le x m (below x m hs (by omega) hm)
      · exact ⟨(h3 x hx).1, (h3 x hx).2.le q.le⟩
theorem Gd.last {vars : List Vt} {count t : Nat} {σ : Szs} (h : Gd vars count t σ) (ht : count ≤ t) : ∀ s, s < count → FinS vars σ s := by
  rcases h with h | ⟨fs, h1, h2, h3⟩
  · exact h
  · intro s hs
    exact (h3 s (pig fs (List.range count) h1 (fun x hx => List.mem_range.mpr (h3 x hx).1) (by rw [List.length_range]; omega) s (List.mem_range.mpr hs))).2
/-- told sizes: each is a variant's -/
def FixB (vars : List Vt) (σ : Szs) : Prop := ∀ s z, σ s = some z → ∃ (k : Nat) (v : Vt), vars[k]? = some v ∧ v.plug = s ∧ siz σ v = some z
theorem FixB.of {vars : List Vt} {σ : Szs} (h : SzI vars σ) (f : ∀ v ∈ vars, ∀ z, siz σ v = some z → good σ v.plug z) : FixB vars σ := fun s z e => by
  obtain ⟨v, hv, hs, y, e1, e2⟩ := h.by_ s z e
  obtain ⟨k, hk, e3⟩ := List.getElem_of_mem hv
  obtain ⟨x, g1, g2⟩ := f v hv y e1
  rw [hs, e] at g1
  cases g1
  refine ⟨k, v, by rw [List.getElem?_eq_getElem hk, e3], hs, ?_⟩
  rw [e1, show y = z by omega]
end W
namespace W
def spSize : Rel := fun ds S Q => ∃ (v : Vt) (l n : Nat) (σ : Szs), ds = [v.enc, .loc l] ∧ S[l]? = some (.lst (rowD n fun s => on (σ s))) ∧ (∀ s ∈ v.slots, s < n) ∧ Q (on (siz σ v)) S
theorem size_ok {ds : List D} {S : Sto} {Q : D → Sto → Prop} (h : spSize ds S Q) : b__law_size (fnE S Q) (ds.map some ++ [none, none]) S := by
  obtain ⟨v, l, n, σ, rfl, hl, hs, q⟩ := h
  obtain ⟨pl, sl, pr⟩ := v
  show b__law_size (fnE S Q) [some (.tup [eN pl, .tup (sl.map eN), oi pr]), some (.loc l), none, none] S
  unfold b__law_size
  repeat walk_at "g"
  rw [isNon_oi]
  cases pr with
  | none =>
    refine i_yes rfl ?_
    repeat walk_at "g"
    exact i_fin q
  | some pz =>
    refine i_no rfl ?_
    repeat walk_at "g"
    refine each_ind (fun xs γ S' => ∃ (ss : List Nat) (z : Nat) (a3 : Option D), xs = ss.map eN ∧ (∀ s ∈ ss, s < n) ∧ γ = [some (.tup [eN pl, .tup (sl.map eN), .int pz]), some (.loc l), some (.int z), a3] ∧ S' = S ∧ addO (some z) (szs σ ss) = addO (some 1) (szs σ sl)) (fun _ _ _ _ => trivial) ?_ ?_ _ _ _ ⟨sl, 1, none, rfl, hs, rfl, rfl, rfl⟩
    · rintro γ S' ⟨ss, z, a3, e, h1, rfl, rfl, h2⟩
      cases ss with
      | cons _ _ => cases e
      | nil =>
        repeat walk_at "g"
        refine i_fin ?_
        have e2 : siz σ ⟨pl, sl, some pz⟩ = some z := by
          show addO (some 1) (szs σ sl) = _
          rw [← h2]
          show some (z + 0) = _
          rw [Nat.add_zero]
        rw [e2] at q
        exact q
    · rintro x xs γ S' R ⟨ss, z, a3, e, h1, rfl, rfl, h2⟩ k
      cases ss with
      | nil => cases e
      | cons s ss =>
        cases e
        have e4 := at_nat (rowD_at (f := fun s => on (σ s)) (h1 s List.mem_cons_self))
        repeat walk_at "g"
        refine i_ixL hl e4 ?_
        rw [show szs σ (s :: ss) = addO (σ s) (szs σ ss) from rfl] at h2
        generalize σ s = o at e4 h2 ⊢
        repeat walk_at "g"
        rw [isNon_on]
        cases o with
        | none =>
          refine i_yes rfl ?_
          repeat walk_at "g"
          refine i_fin ?_
          have e2 : siz σ ⟨pl, sl, some pz⟩ = none := by
            show addO (some 1) (szs σ sl) = _
            rw [← h2]
            rfl
          rw [e2] at q
          exact q
        | some y =>
          refine i_no rfl ?_
          repeat walk_at "g"
          refine i_ixL hl e4 ?_
          repeat walk_at "g"
          refine k _ _ ⟨ss, z + y, some (eN s), rfl, fun t ht => h1 t (List.mem_cons_of_mem _ ht), by (rw [Int.natCast_add]; all_goals rfl), rfl, ?_⟩
          rw [← h2]
          cases szs σ ss with
          | none => rfl
          | some w => exact congrArg some (by omega)
def setZ (σ : Szs) (s z : Nat) : Szs := fun t => if t = s then some z else σ t
theorem setZ_le {σ : Szs} {s z : Nat} (h : ∀ y, σ s = some y → z ≤ y) : leS (setZ σ s z) σ := fun t n ⟨y, e, hy⟩ => by
  by_cases ht : t = s
  · subst ht
    exact ⟨z, if_pos rfl, Nat.le_trans (h y e) hy⟩
  · exact ⟨y, by unfold setZ; rw [if_neg ht]; exact e, hy⟩
theorem SzI.set {vars : List Vt} {σ : Szs} (h : SzI vars σ) {v : Vt} (hv : v ∈ vars) {z : Nat} (e : siz σ v = some z) (hz : ∀ y, σ v.plug = some y → z ≤ y) : SzI vars (setZ σ v.plug z) := by
  have le := setZ_le hz
  refine ⟨fun s y g => ?_, fun s y g => ?_⟩
  · unfold setZ at g
    split at g
    · rename_i es
      cases g
      rw [es]
      exact ⟨siz_pos e, siz_T h.sound hv e⟩
    · exact h.sound s y g
  · unfold setZ at g
    split at g
    · rename_i es
      cases g
      obtain ⟨a, g1, g2⟩ := siz_le le e
      exact ⟨v, hv, es.symm, a, g1, g2⟩
    · obtain ⟨w, hw, g1, x, g2, g3⟩ := h.by_ s y g
      obtain ⟨a, g4, g5⟩ := siz_le le g2
      exact ⟨w, hw, g1, a, g4, by omega⟩
def spSizes : Rel := fun ds S Q => ∃ (f : Fam) (B : Nat), ds = [f.enc] ∧ FamG B f ∧ ∀ σ : Szs, FixB f.vars σ → (∀ s z, σ s = some z → 1 ≤ z) → Q (.loc S.length) (S ++ [.lst (rowD f.count fun s => on (σ s))])
theorem sizes_ok {ds : List D} {S : Sto} {Q : D → Sto → Prop} (h : spSizes ds S Q) : b__law_sizes spSize (fnE S Q) (ds.map some ++ List.replicate 6 none) S := by
  obtain ⟨f, B, rfl, hf, q⟩ := h
  obtain ⟨count, roots, vars⟩ := f
  show b__law_sizes spSize (fnE S Q) [some (.tup [eN count, .tup (roots.map eN), .tup (vars.map Vt.enc)]), none, none, none, none, none, none] S
  have hmost : count ≤ 1000 := hf.most
  have hvs : ∀ v ∈ vars, v.plug < count ∧ ∀ s ∈ v.slots, s < count := fun v hv => ⟨(hf.vars v hv).plug, (hf.vars v hv).slots⟩
  unfold b__law_sizes
  repeat walk_at "g"
  refine ⟨⟨by omega, by omega⟩, ?_⟩
  rw [show ((count : Int)).toNat = count from Int.toNat_natCast _]
  refine comp_const .non (by omega) (fun _ _ _ _ h => h _) (fun _ _ _ h => h) ?_
  repeat walk_at "g"
  refine ⟨⟨by omega, by omega⟩, ?_⟩
  rw [show ((count : Int) + 1).toNat = count + 1 by omega, rowD_rep]
  have done : ∀ (σ : Szs) (a2 a3 a4 a5 : Option D), SzI vars σ → (∀ v ∈ vars, ∀ z, siz σ v = some z → good σ v.plug z) → sRet (gVar 1) (fnE S Q) [some (.tup [eN count, .tup (roots.map eN), .tup (vars.map Vt.enc)]), some (.loc S.length), a2, a3, a4, a5, none] (S ++ [.lst (rowD count fun s => on (σ s))]) := fun σ a2 a3 a4 a5 h1 h2 => by
    repeat walk_at "g"
    exact i_fin (q σ (FixB.of h1 h2) fun s z e => (h1.sound s z e).1)
  refine each_rng (fun t γ S' => ∃ (σ : Szs) (a2 a3 a4 a5 : Option D), γ = [some (.tup [eN count, .tup (roots.map eN), .tup (vars.map Vt.enc)]), some (.loc S.length), a2, a3, a4, a5, none] ∧ S' = S ++ [.lst (rowD count fun s => on (σ s))] ∧ SzI vars σ ∧ Gd vars count t σ) 0 (count + 1) ?_ ?_ ⟨fun _ => none, none, none, none, none, rfl, rfl, ⟨fun _ _ h => (nomatch h), fun _ _ h => (nomatch h)⟩, .inr ⟨[], .nil, rfl, fun _ h => absurd h List.not_mem_nil⟩⟩
  · rintro γ S' ⟨σ, a2, a3, a4, a5, rfl, rfl, hI, hG⟩
    have all := hG.last (by omega)
    exact done σ a2 a3 a4 a5 hI fun v hv z e => all _ (hvs v hv).1 z (siz_T hI.sound hv e)
  · rintro t γ S' R ht ⟨σ, a2, a3, a4, a5, rfl, rfl, hI, hG⟩ k
    repeat walk_at "g"
    refine each_pre Vt.enc vars (fun pre γ S' => ∃ (τ : Szs) (ch : Bool) (a4 a5 : Option D), γ = [some (.tup [eN count, .tup (roots.map eN), .tup (vars.map Vt.enc)]), some (.loc S.length), some (.int (0 + (t : Int))), some (.bl ch), a4, a5, none] ∧ S' = S ++ [.lst (rowD count fun s => on (τ s))] ∧ SzI vars τ ∧ leS τ σ ∧ (∀ v ∈ pre, ∀ z, siz σ v = some z → good τ v.plug z) ∧ (ch = false → τ = σ)) (fun _ _ _ _ => trivial) ?_ ?_ ⟨σ, false, a4, a5, rfl, rfl, hI, leS.refl _, fun _ h => absurd h List.not_mem_nil, fun _ => rfl⟩
    · rintro γ S' ⟨τ, ch, b4, b5, rfl, rfl, h1, h2, h3, h4⟩
      repeat walk_at "g"
      cases ch with
      | true =>
        refine i_no rfl ?_
        repeat walk_at "g"
        exact k _ _ ⟨τ, _, _, _, _, rfl, rfl, h1, hG.next hvs ⟨h2, h3⟩⟩
      | false =>
        refine i_yes rfl ?_
        repeat walk_at "g"
        have e := h4 rfl
        subst e
        exact i_fin (q τ (FixB.of h1 h3) fun s z e => (h1.sound s z e).1)
    · rintro pre v post γ S' R2 hv ⟨τ, ch, b4, b5, rfl, rfl, h1, h2, h3, h4⟩ k2
      have hm : v ∈ vars := by rw [hv]; exact List.mem_append_right _ List.mem_cons_self
      have hvg := hf.vars v hm
      have hplug := (hvs v hm).1
      have e4 := at_nat (rowD_at (f := fun s => on (τ s)) hplug)
      repeat walk_at "g"
      refine ⟨v, S.length, count, τ, rfl, rowAt, (hvs v hm).2, ?_⟩
      have keep : ∀ a4 a5, (∀ z, siz τ v = some z → good τ v.plug z) → R2 [some (.tup [eN count, .tup (roots.map eN), .tup (vars.map Vt.enc)]), some (.loc S.length), some (.int (0 + (t : Int))), some (.bl ch), a4, a5, none] (S ++ [.lst (rowD count fun s => on (τ s))]) := fun a4 a5 hz => k2 _ _ ⟨τ, ch, _, _, rfl, rfl, h1, h2, fun w hw z e => by
        rcases List.mem_append.mp hw with hw | hw
        · exact h3 w hw z e
        · rw [List.mem_singleton.mp hw] at e ⊢
          obtain ⟨a, g1, g2⟩ := siz_le h2 e
          obtain ⟨b, g3, g4⟩ := hz a g1
          exact ⟨b, g3, by omega⟩, h4⟩
      have put : ∀ z a4 a5, siz τ v = some z → (∀ y, τ v.plug = some y → z ≤ y) → R2 [some (.tup [eN count, .tup (roots.map eN), .tup (vars.map Vt.enc)]), some (.loc S.length), some (.int (0 + (t : Int))), some (.bl true), a4, a5, none] (S ++ [.lst ((rowD count fun s => on (τ s)).set v.plug (eN z))]) := fun z a4 a5 e hz => by
        have le := setZ_le hz
        refine k2 _ _ ⟨setZ τ v.plug z, true, _, _, rfl, ?_, h1.set hm e hz, le.trans h2, fun w hw y ew => ?_, fun z => nomatch z⟩
        · rw [rowD_set (f' := fun s => on (setZ τ v.plug z s)) (by unfold setZ; rw [if_pos rfl]) (fun t ht => by unfold setZ; rw [if_neg ht])]
        · rcases List.mem_append.mp hw with hw | hw
          · exact le _ _ (h3 w hw y ew)
          · rw [List.mem_singleton.mp hw] at ew ⊢
            obtain ⟨a, g1, g2⟩ := siz_le h2 ew
            rw [e] at g1
            cases g1
            exact ⟨z, if_pos rfl, g2⟩
      generalize siz τ v = o at keep put ⊢
      repeat walk_at "g"
      rw [isNon_on]
      cases o with
      | none =>
        refine i_no rfl ?_
        repeat walk_at "g"
        exact keep _ _ (fun _ h => nomatch h)
      | some z =>
        refine i_yes rfl ?_
        repeat walk_at "g"
        refine i_ixL rowAt e4 ?_
        generalize hy : τ v.plug = y at e4 ⊢
        repeat walk_at "g"
        rw [isNon_on]
        cases y with
        | none =>
          refine i_yes rfl ?_
          repeat walk_at "g"
          refine i_setL rowAt (ix_nat (by rw [rowD_len]; exact hplug)) ?_
          rw [rowSet]
          repeat walk_at "g"
          exact put z _ _ rfl (fun y e => by rw [hy] at e; cases e)
        | some y =>
          refine i_no rfl ?_
          repeat walk_at "g"
          refine i_ixL rowAt e4 ?_
          repeat walk_at "g"
          walk_at "gi"
          · repeat walk_at "g"
            refine i_setL rowAt (ix_nat (by rw [rowD_len]; exact hplug)) ?_
            rw [rowSet]
            repeat walk_at "g"
            exact put z _ _ rfl (fun y e => by rw [hy] at e; cases e; omega)
          · repeat walk_at "g"
            exact keep _ _ (fun z' e => by cases e; exact ⟨y, hy, by omega⟩)
/-! ### a tree's price -/
def psum (vars : List Vt) (ks : List Nat) : List Int := ks.map fun k => ((vars[k]?).bind Vt.price).getD 0
theorem comp_pre {α : Type} {tg : GG} {te : GT D} {γ0 : Sl} {Q : D → Sto → Prop} {S : Sto} {ok : Sto → Prop} (enc : α → D) (f : α → D) (xs : List α) (hn : xs.length ≤ 1000000) (hok : ∀ Y, ok (S ++ Y)) (h : ∀ x Y (Q : D → Sto → Prop), x ∈ xs → Q (f x) (S ++ Y) → tg (enc x) γ0 (S ++ Y) fun γ2 S2 => te γ2 S2 Q) (q : Q (.loc S.length) (S ++ [.lst (xs.map f)])) : comp ok tg bYes te S.length γ0 Q (xs.map enc) (S ++ [.lst []]) := by
  have key : ∀ (post pre : List α), xs = pre ++ post → comp ok tg bYes te S.length γ0 Q (post.map enc) (S ++ [.lst (pre.map f)]) := by
    intro post
    induction post with
    | nil =>
      intro pre e
      rw [List.append_nil] at e
      subst e
      exact ⟨hok _, q⟩
    | cons x post ih =>
      intro pre e
      refine ⟨hok _, ?_⟩
      have e1 : (fun γ2 S2 => bYes γ2 S2 fun k S3 => if k = true then te γ2 S3 fun y S4 => match S4[S.length]? with
          | some (.lst acc) => acc.length < sizeLine ∧ comp ok tg bYes te S.length γ0 Q (post.map enc) (S4.set S.length (.lst (acc ++ [y])))
          | _ => False
        else comp ok tg bYes te S.length γ0 Q (post.map enc) S3) = fun γ2 S2 => te γ2 S2 fun y S4 => match S4[S.length]? with
          | some (.lst acc) => acc.length < sizeLine ∧ comp ok tg bYes te S.length γ0 Q (post.map enc) (S4.set S.length (.lst (acc ++ [y])))
          | _ => False := funext fun γ2 => funext fun S2 => by
        unfold bYes
        exact if_pos rfl
      refine Eq.mpr (congrArg (fun F => tg (enc x) γ0 (S ++ [.lst (pre.map f)]) F) e1) ?_
      refine h x _ _ (by rw [e]; exact List.mem_append_right _ List.mem_cons_self) ?_
      refine i_comp (xs := pre.map f) (S := S ++ [.lst (pre.map f)]) rowAt (small_lt (by rw [e, List.length_append, List.length_cons] at hn; rw [List.length_map]; omega)) ?_
      rw [rowSet, map_snoc]
      exact ih (pre ++ [x]) (by rw [e, List.append_assoc]; rfl)
  exact key xs [] rfl
def spPriced : Rel := fun ds S Q => ∃ (f : Fam) (ks : List Nat), ds = [f.enc, .tup (ks.map eN)] ∧ (∀ k ∈ ks, ∃ (v : Vt) (p : Int), f.vars[k]? = some v ∧ v.price = some p) ∧ ks.length ≤ 1000 ∧ Q (.int (psum f.vars ks).sum) S
theorem priced_ok {ds : List D} {S : Sto} {Q : D → Sto → Prop} (h : spPriced ds S Q) (c : ClS S) : b__law_priced (fnE S Q) (ds.map some ++ [none]) S := by
  obtain ⟨f, ks, rfl, hk, hl, q⟩ := h
  obtain ⟨count, roots, vars⟩ := f
  show b__law_priced (fnE S Q) [some (.tup [eN count, .tup (roots.map eN), .tup (vars.map Vt.enc)]), some (.tup (ks.map eN)), none] S
  unfold b__law_priced
  repeat walk_at "g"
  refine comp_pre eN (fun k => .int (((vars[k]?).bind Vt.price).getD 0)) ks (by omega) (fun _ => trivial) (fun k Y Q hk' q => ?_) ?_
  · obtain ⟨v, p, e1, e2⟩ := hk k hk'
    have e1' : vars[k]? = some v := e1
    rw [e1'] at q
    have q' : Q (.int p) (S ++ Y) := by
      have e3 : (((some v : Option Vt).bind Vt.price).getD 0) = p := by
        show (v.price).getD 0 = p
        rw [e2]
        rfl
      rw [e3] at q
      exact q
    obtain ⟨pl, sl, pr⟩ := v
    have e4 : pr = some p := e2
    subst e4
    repeat walk_at "g"
    refine i_ixT (at_nat (by rw [List.getElem?_map, e1']; rfl)) ?_
    repeat walk_at "g"
    exact q'
  · repeat walk_at "g"
    refine i_sum rowAt (ints_map _ _) ?_
    exact kp_pre c (Nat.le_refl _) rfl q
end W
namespace W
/-! ### trees in order (no program here) -/
def Pre (vars : List Vt) : List Nat → List Nat → Int → Prop
  | st, [], p => st = [] ∧ p = 0
  | st, k :: ks, p => ∃ (s : Nat) (st' : List Nat) (v : Vt) (q p' : Int), st = s :: st' ∧ vars[k]? = some v ∧ v.plug = s ∧ v.price = some q ∧ Pre vars (v.slots ++ st') ks p' ∧ p = q + p'
theorem fil_app {r : Nat → Nat → List Tr} : ∀ (a b : List Nat) (n : Nat) (x : Tr), x ∈ fil r (a ++ b) n → ∃ y z n1 n2, y ∈ fil r a n1 ∧ z ∈ fil r b n2 ∧ n = n1 + n2 ∧ x = (y.1 + z.1, y.2 ++ z.2)
  | [], b, n, x, h => ⟨(0, []), x, 0, n, List.mem_singleton.mpr rfl, h, (Nat.zero_add n).symm, by show x = (0 + x.1, [] ++ x.2); rw [Int.zero_add]; rfl⟩
  | s :: a, b, n, x, h => by
    rw [List.cons_append] at h
    unfold fil at h
    obtain ⟨i, hi, h⟩ := List.mem_flatMap.mp h
    obtain ⟨w, hw, h⟩ := List.mem_flatMap.mp h
    obtain ⟨t, ht, e⟩ := List.mem_map.mp h
    have hi' := List.mem_range.mp hi
    obtain ⟨y, z, n1, n2, h1, h2, h3, h4⟩ := fil_app a b _ w hw
    refine ⟨(t.1 + y.1, t.2 ++ y.2), z, i + 1 + n1, n2, ?_, h2, by omega, ?_⟩
    · unfold fil
      refine List.mem_flatMap.mpr ⟨i, List.mem_range.mpr (by omega), List.mem_flatMap.mpr ⟨y, ?_, List.mem_map.mpr ⟨t, ht, rfl⟩⟩⟩
      rw [show i + 1 + n1 - (i + 1) = n1 by omega]
      exact h1
    · rw [← e, h4]
      show (t.1 + (y.1 + z.1), t.2 ++ (y.2 ++ z.2)) = (t.1 + y.1 + z.1, t.2 ++ y.2 ++ z.2)
      rw [Int.add_assoc, List.append_assoc]
theorem pre_fil {vars : List Vt} (N : Nat) : ∀ (ks st : List Nat) (p : Int), Pre vars st ks p → ks.length ≤ N → (p, ks) ∈ fil (tb vars N) st ks.length
  | [], st, p, h, _ => by
    obtain ⟨rfl, rfl⟩ := h
    exact List.mem_singleton.mpr rfl
  | k :: ks, st, p, h, hN => by
    obtain ⟨s, st', v, q, p', rfl, h1, h2, h3, h4, rfl⟩ := h
    rw [List.length_cons] at hN
    have ih := pre_fil N ks _ p' h4 (by omega)
    obtain ⟨y, z, n1, n2, g1, g2, g3, g4⟩ := fil_app _ _ _ _ ih
    have gy := fil_size (tb_size N) _ _ _ g1
    have ep : p' = y.1 + z.1 := congrArg Prod.fst g4
    have ek : ks = y.2 ++ z.2 := congrArg Prod.snd g4
    unfold fil
    refine List.mem_flatMap.mpr ⟨n1, List.mem_range.mpr (by rw [List.length_cons]; omega), List.mem_flatMap.mpr ⟨z, ?_, List.mem_map.mpr ⟨(q + y.1, k :: y.2), ?_, ?_⟩⟩⟩
    · rw [List.length_cons, show ks.length + 1 - (n1 + 1) = n2 by omega]
      exact g2
    · rw [tb_at (show n1 + 1 ≤ N by omega), tb_lvl]
      refine mem_lvl h1 h2 h3 ?_
      rw [Nat.add_sub_cancel, fil_congr v.slots n1 fun n s hn => tb_at (k := n1) (n := n) (s := s) hn]
      rw [fil_congr v.slots n1 fun n s hn => tb_at (k := N) (n := n) (s := s) (by omega)] at g1
      exact g1
    · show (q + y.1 + z.1, k :: y.2 ++ z.2) = (q + p', k :: ks)
      rw [ep, ek, Int.add_assoc]
      rfl
theorem szs_app {σ : Szs} : ∀ (a b : List Nat), szs σ (a ++ b) = addO (szs σ a) (szs σ b)
  | [], b => by
    show szs σ b = addO (some 0) (szs σ b)
    cases szs σ b with
    | none => rfl
    | some x => exact congrArg some (by omega)
  | s :: a, b => by
    rw [List.cons_append]
    show addO (σ s) (szs σ (a ++ b)) = addO (addO (σ s) (szs σ a)) (szs σ b)
    rw [szs_app a b]
    cases σ s <;> cases szs σ a <;> cases szs σ b <;> simp only [addO]
    rw [Nat.add_assoc]
theorem szs_len {σ : Szs} (h : ∀ s z, σ s = some z → 1 ≤ z) : ∀ (a : List Nat) (n : Nat), szs σ a = some n → a.length ≤ n
  | [], n, _ => Nat.zero_le _
  | s :: a, n, e => by
    unfold szs at e
    cases e1 : σ s with
    | none => rw [e1] at e; cases e
    | some x =>
      cases e2 : szs σ a with
      | none => rw [e1, e2] at e; cases e
      | some y =>
        rw [e1, e2] at e
        cases e
        have := h s x e1
        have := szs_len h a y e2
        rw [List.length_cons]
        omega
theorem siz_some {σ : Szs} {v : Vt} {z : Nat} (e : siz σ v = some z) : ∃ q y, v.price = some q ∧ szs σ v.slots = some y ∧ z = 1 + y := by
  unfold siz at e
  cases hp : v.price with
  | none => rw [hp] at e; cases e
  | some p =>
    rw [hp] at e
    dsimp only at e
    cases e2 : szs σ v.slots with
    | none => rw [e2] at e; cases e
    | some y =>
      rw [e2] at e
      cases e
      exact ⟨p, y, rfl, rfl, rfl⟩
theorem psum_snoc {vars : List Vt} {ks : List Nat} {k : Nat} {v : Vt} {q : Int} (h1 : vars[k]? = some v) (h2 : v.price = some q) : (psum vars (ks ++ [k])).sum = (psum vars ks).sum + q := by
  unfold psum
  rw [List.map_append, List.sum_append, List.map_singleton, h1]
  show _ + ((v.price.getD 0) + 0) = _
  rw [h2, Int.add_zero]
  rfl
theorem lookL {T : Tape} {L Y : Sto} {lo : Nat} {x : SO} (h : L[lo]? = some x) : (T.enc ++ (L ++ Y))[lo + 2]? = some x := by
  have z : (L ++ Y)[lo]? = some x := up_app h
  simpa [Tape.enc] using z
theorem upA {T : Tape} {X Y : Sto} {n : Nat} {o : SO} (h : (T.enc ++ X)[n]? = some o) : (T.enc ++ (X ++ Y))[n]? = some o := by
  rw [← List.append_assoc]
  exact up_app h
def spTree : Rel := fun ds S Q => ∃ (T : Tape) (f : Fam) (B st room lo z0 : Nat) (σ : Szs) (L : Sto), ds = [.loc 1, f.enc, .loc (lo + 2), eN st, eN room] ∧ FamG B f ∧ L[lo]? = some (.lst (rowD f.count fun s => on (σ s))) ∧ FixB f.vars σ ∧ (∀ s z, σ s = some z → 1 ≤ z) ∧ st < f.count ∧ σ st = some z0 ∧ z0 ≤ 900 ∧ room ≤ 900 ∧ S = T.enc ++ L ∧
  ∀ (T' : Tape) (ks : List Nat), Pre f.vars [st] ks (psum f.vars ks).sum → (∀ k ∈ ks, ∃ (v : Vt) (p : Int), f.vars[k]? = some v ∧ v.price = some p) → ks.length ≤ max room z0 → Q (.tup (ks.map eN)) (T'.enc ++ L)
theorem tree_ok {ds : List D} {S : Sto} {Q : D → Sto → Prop} (h : spTree ds S Q) (c : ClS S) : b__law_tree spSize spDraw (fnE S Q) (ds.map some ++ List.replicate 9 none) S := by
  obtain ⟨T, f, B, st, room, lo, z0, σ, L, rfl, hf, hlo, hfix, hpos, hst, hz0, hz9, hr9, rfl, q⟩ := h
  obtain ⟨count, roots, vars⟩ := f
  show b__law_tree spSize spDraw (fnE (T.enc ++ L) Q) [some (.loc 1), some (.tup [eN count, .tup (roots.map eN), .tup (vars.map Vt.enc)]), some (.loc (lo + 2)), some (.int st), some (.int room), none, none, none, none, none, none, none, none, none] (T.enc ++ L)
  have hlo : L[lo]? = some (.lst (rowD count fun s => on (σ s))) := hlo
  have hfewv : vars.length ≤ 1000 := hf.few
  have szat : ∀ s, s < count → atI (rowD count fun s => on (σ s)) (s : Int) = some (on (σ s)) := fun s hs => at_nat (rowD_at hs)
  have zst : atI (rowD count fun s => on (σ s)) (st : Int) = some (eN z0) := by rw [szat st hst, hz0]
  unfold b__law_tree
  repeat walk_at "g"
  rw [tape_len, List.append_assoc]
  refine i_ixL (lookL hlo) zst ?_
  repeat walk_at "g"
  rw [tape_len1, List.append_assoc, List.append_assoc]
  refine i_ixL (lookL hlo) zst ?_
  repeat walk_at "g"
  have emax : (if (z0 : Int) > (room : Int) then (z0 : Int) else (room : Int)) = ((max room z0 : Nat) : Int) := by split <;> omega
  rw [emax]
  generalize hR : max room z0 = R
  have hRr : room ≤ R := by omega
  have hRz : z0 ≤ R := by omega
  have hR9 : R ≤ 900 := by omega
  repeat walk_at "g"
  refine ⟨⟨by omega, by omega⟩, ?_⟩
  rw [Int.toNat_natCast]
  rw [hR] at q
  -- the end of the whole
  have fin : ∀ (T' : Tape) (ks : List Nat) (g : Sto), Pre vars [st] ks (psum vars ks).sum → (∀ k ∈ ks, ∃ (v : Vt) (p : Int), vars[k]? = some v ∧ v.price = some p) → ks.length ≤ R → Kp (T.enc ++ L) Q (.tup (ks.map eN)) (T'.enc ++ (L ++ g)) := fun T' ks g h1 h2 h3 =>
    kp_drop c (by unfold G.Cl; exact Cls_eN _) (q T' ks h1 h2 h3)
  refine each_rng (fun t γ S' => ∃ (T1 : Tape) (stk done : List Nat) (nd : Nat) (g : Sto) (a8 a9 a10 a11 a12 a13 : Option D), γ = [some (.loc 1), some (.tup [eN count, .tup (roots.map eN), .tup (vars.map Vt.enc)]), some (.loc (lo + 2)), some (.int st), some (.int room), some (.loc (L.length + 2)), some (.int nd), some (.loc (L.length + 3)), a8, a9, a10, a11, a12, a13] ∧
    S' = T1.enc ++ (L ++ .lst (stk.reverse.map eN) :: .lst (done.map eN) :: g) ∧ szs σ stk = some nd ∧ done.length = t ∧ done.length + nd ≤ R ∧ (∀ s ∈ stk, s < count) ∧ (∀ k ∈ done, ∃ (v : Vt) (p : Int), vars[k]? = some v ∧ v.price = some p) ∧
    ∀ ks p, Pre vars stk ks p → Pre vars [st] (done ++ ks) ((psum vars done).sum + p)) 0 R ?_ ?_ ⟨T, [st], [], z0, [], none, none, none, none, none, none, rfl, rfl, ?_, rfl, by show 0 + z0 ≤ R; omega, fun s hs => by rw [List.mem_singleton.mp hs]; exact hst, fun _ h => absurd h List.not_mem_nil, fun ks p h => ?_⟩
  · rintro γ S' ⟨T1, stk, done, nd, g, a8, a9, a10, a11, a12, a13, rfl, rfl, h1, h2, h3, h4, h5, h6⟩
    have hs0 : stk = [] := by
      have := szs_len hpos stk nd h1
      exact List.length_eq_zero_iff.mp (by omega)
    subst hs0
    repeat walk_at "g"
    refine i_tupleL (look2 rfl) ?_
    have z := h6 [] 0 ⟨rfl, rfl⟩
    rw [List.append_nil, Int.add_zero] at z
    exact fin T1 done _ z h5 (by omega)
  · rintro t γ S' Rk ht ⟨T1, stk, done, nd, g, a8, a9, a10, a11, a12, a13, rfl, rfl, h1, h2, h3, h4, h5, h6⟩ kk
    repeat walk_at "g"
    refine i_onL look ?_
    cases stk with
    | nil =>
      refine i_yes rfl ?_
      repeat walk_at "g"
      refine i_tupleL (look2 rfl) ?_
      have z := h6 [] 0 ⟨rfl, rfl⟩
      rw [List.append_nil, Int.add_zero] at z
      exact fin T1 done _ z h5 (by omega)
    | cons goal stk =>
      have e0 : ((goal :: stk).reverse.map eN) = stk.reverse.map eN ++ [eN goal] := by rw [List.reverse_cons, List.map_append]; rfl
      rw [e0]
      refine i_no (by cases stk.reverse.map eN <;> rfl) ?_
      repeat walk_at "g"
      refine i_isl look ?_
      repeat walk_at "g"
      refine i_pop look ?_
      rw [look_set]
      have hgoal : goal < count := h4 goal List.mem_cons_self
      have esz : ∃ zg nr, σ goal = some zg ∧ szs σ stk = some nr ∧ nd = zg + nr := by
        unfold szs at h1
        cases e1 : σ goal with
        | none => rw [e1] at h1; cases h1
        | some x =>
          cases e2 : szs σ stk with
          | none => rw [e1, e2] at h1; cases h1
          | some y =>
            rw [e1, e2] at h1
            cases h1
            exact ⟨x, y, rfl, rfl, rfl⟩
      obtain ⟨zg, nr, eg, er, rfl⟩ := esz
      have zgoal : atI (rowD count fun s => on (σ s)) (goal : Int) = some (eN zg) := by rw [szat goal hgoal, eg]
      repeat walk_at "g"
      refine i_ixL (lookL hlo) zgoal ?_
      repeat walk_at "g"
      rw [show ((zg + nr : Nat) : Int) - (zg : Int) = (nr : Int) by omega, List.length_map]
      refine ⟨⟨by omega, by omega⟩, ?_⟩
      rw [Int.toNat_natCast, List.append_assoc]
      generalize hM : L ++ SO.lst (stk.reverse.map eN) :: SO.lst (done.map eN) :: g = M
      have lookM0 : ∀ {T : Tape} {Y : Sto}, (T.enc ++ (M ++ Y))[lo + 2]? = some (.lst (rowD count fun s => on (σ s))) := fun {T Y} => by
        subst hM
        rw [List.append_assoc]
        exact lookL hlo
      have lookM2 : ∀ {T : Tape} {Y : Sto}, (T.enc ++ (M ++ Y))[L.length + 3]? = some (.lst (done.map eN)) := fun {T Y} => by
        subst hM
        exact upA (look2 rfl)
      obtain ⟨k0, v0, hk0, hp0, hz0'⟩ := hfix goal zg eg
      have hk0l : k0 < vars.length := (List.getElem?_eq_some_iff.mp hk0).1
      rw [tape_len]
      refine each_rng (fun j γ S' => ∃ (fs : List Nat) (a11 a13 : Option D), γ = [some (.loc 1), some (.tup [eN count, .tup (roots.map eN), .tup (vars.map Vt.enc)]), some (.loc (lo + 2)), some (.int st), some (.int room), some (.loc (L.length + 2)), some (.int nr), some (.loc (L.length + 3)), some (.int (0 + (t : Int))), some (.int goal), some (.loc (M.length + 2)), a11, a12, a13] ∧
        S' = T1.enc ++ (M ++ [.lst (fs.map eN)]) ∧ fs.length ≤ j ∧ (∀ k ∈ fs, ∃ v z, vars[k]? = some v ∧ v.plug = goal ∧ siz σ v = some z ∧ done.length + nr + z ≤ R) ∧ (k0 < j → fs ≠ [])) 0 vars.length ?_ ?_ ⟨[], a11, a13, rfl, rfl, Nat.le_refl _, fun _ h => absurd h List.not_mem_nil, fun h => absurd h (Nat.not_lt_zero _)⟩
      · rintro γ S' ⟨fs, b11, b13, rfl, rfl, f1, f2, f3⟩
        have fpos : 0 < fs.length := List.length_pos_iff.mpr (f3 hk0l)
        repeat walk_at "g"
        refine i_lenL look ?_
        rw [List.length_map]
        repeat walk_at "g"
        refine use_draw (by omega) (by omega) fun kd T2 hd0 hd1 => ?_
        obtain ⟨k, hk, ek⟩ := at_map (f := eN) hd0 hd1
        obtain ⟨v, z, hv, hvp, hvz, hfit⟩ := f2 k hk
        have hvm : v ∈ vars := List.mem_of_getElem? hv
        have hvg : VtG count B v := hf.vars v hvm
        repeat walk_at "g"
        refine i_ixL look ek ?_
        repeat walk_at "g"
        refine i_isl lookM2 ?_
        repeat walk_at "g"
        refine i_append lookM2 (small_lt (by rw [List.length_map]; omega)) ?_
        rw [show ((T2.enc ++ (M ++ [SO.lst (fs.map eN)])).set (L.length + 3) (.lst (done.map eN ++ [eN k]))) = T2.enc ++ (L ++ SO.lst (stk.reverse.map eN) :: SO.lst ((done ++ [k]).map eN) :: (g ++ [SO.lst (fs.map eN)])) by
          subst hM
          rw [List.append_assoc, List.cons_append, List.cons_append, set2 rfl, map_snoc]]
        repeat walk_at "g"
        refine i_ixT (at_nat (by rw [List.getElem?_map, hv]; rfl)) ?_
        repeat walk_at "g"
        refine ⟨v, lo + 2, count, σ, rfl, lookL hlo, hvg.slots, ?_⟩
        rw [hvz]
        repeat walk_at "g"
        refine i_ixT (at_nat (by rw [List.getElem?_map, hv]; rfl)) ?_
        repeat walk_at "g"
        obtain ⟨qz, y, hq1, hq2, rfl⟩ := siz_some hvz
        rw [show ((nr : Int) + ((1 + y : Nat) : Int) - 1) = ((nr + y : Nat) : Int) by omega, ← List.map_reverse]
        refine each_pre eN v.slots.reverse (fun pre γ S' => ∃ (a12 : Option D), γ = [some (.loc 1), some (.tup [eN count, .tup (roots.map eN), .tup (vars.map Vt.enc)]), some (.loc (lo + 2)), some (.int st), some (.int room), some (.loc (L.length + 2)), some (.int ((nr + y : Nat) : Int)), some (.loc (L.length + 3)), some (.int (0 + (t : Int))), some (.int goal), some (.loc (M.length + 2)), some (.int k), a12, b13] ∧
          S' = T2.enc ++ (L ++ .lst ((stk.reverse ++ pre).map eN) :: .lst ((done ++ [k]).map eN) :: (g ++ [.lst (fs.map eN)]))) (fun _ _ _ _ => trivial) ?_ ?_ ⟨a12, rfl, by rw [List.append_nil]⟩
        · rintro γ S' ⟨b12, rfl, rfl⟩
          refine kk _ _ ⟨T2, v.slots ++ stk, done ++ [k], nr + y, _, _, _, _, _, _, _, rfl, by rw [List.reverse_append], ?_, by rw [List.length_append, h2]; rfl, by rw [List.length_append, List.length_singleton]; omega, fun s hs => ?_, fun k' hk' => ?_, fun ks p hpre => ?_⟩
          · rw [szs_app, hq2, er]
            exact congrArg some (by omega)
          · rcases List.mem_append.mp hs with hs | hs
            · exact hvg.slots s hs
            · exact h4 s (List.mem_cons_of_mem _ hs)
          · rcases List.mem_append.mp hk' with hk' | hk'
            · exact h5 k' hk'
            · rw [List.mem_singleton.mp hk']
              exact ⟨v, qz, hv, hq1⟩
          · have z := h6 (k :: ks) (qz + p) ⟨goal, stk, v, qz, p, rfl, hv, hvp, hq1, hpre, rfl⟩
            rw [psum_snoc hv hq1, List.append_assoc, Int.add_assoc]
            exact z
        · rintro pre s post γ S' R2 hsp ⟨b12, rfl, rfl⟩ k2
          have hlen : pre.length ≤ 3 := by
            have e := congrArg List.length hsp
            rw [List.length_reverse, List.length_append] at e
            have := hvg.few
            omega
          have hstk := szs_len hpos stk nr er
          repeat walk_at "g"
          refine i_isl look ?_
          repeat walk_at "g"
          refine i_append look (small_lt (by rw [List.length_map, List.length_append, List.length_reverse]; omega)) ?_
          rw [look_set, map_snoc, List.append_assoc]
          repeat walk_at "g"
          exact k2 _ _ ⟨_, rfl, rfl⟩
      · rintro j γ S' R2 hj ⟨fs, b11, b13, rfl, rfl, f1, f2, f3⟩ k2
        rw [show (0 : Int) + (j : Int) = (j : Int) by omega]
        have hv := List.getElem?_eq_getElem hj
        generalize vars[j] = v at hv
        have hvm : v ∈ vars := List.mem_of_getElem? hv
        have hvg : VtG count B v := hf.vars v hvm
        repeat walk_at "g"
        refine i_ixT (at_nat (by rw [List.getElem?_map, hv]; rfl)) ?_
        repeat walk_at "g"
        refine ⟨v, lo + 2, count, σ, rfl, lookM0, hvg.slots, ?_⟩
        have skip : ∀ a11 a13, (v.plug = goal → siz σ v = some zg → False) → R2 [some (.loc 1), some (.tup [eN count, .tup (roots.map eN), .tup (vars.map Vt.enc)]), some (.loc (lo + 2)), some (.int st), some (.int room), some (.loc (L.length + 2)), some (.int nr), some (.loc (L.length + 3)), some (.int (0 + (t : Int))), some (.int goal), some (.loc (M.length + 2)), a11, a12, a13] (T1.enc ++ (M ++ [.lst (fs.map eN)])) := fun a11 a13 no => k2 _ _ ⟨fs, _, _, rfl, rfl, by omega, f2, fun hlt => by
          by_cases e : k0 = j
          · subst e
            rw [hv] at hk0
            cases hk0
            exact (no hp0 hz0').elim
          · exact f3 (by omega)⟩
        have take : ∀ a13 z, v.plug = goal → siz σ v = some z → done.length + nr + z ≤ R → R2 [some (.loc 1), some (.tup [eN count, .tup (roots.map eN), .tup (vars.map Vt.enc)]), some (.loc (lo + 2)), some (.int st), some (.int room), some (.loc (L.length + 2)), some (.int nr), some (.loc (L.length + 3)), some (.int (0 + (t : Int))), some (.int goal), some (.loc (M.length + 2)), some (.int j), a12, a13] (T1.enc ++ (M ++ [.lst (fs.map eN ++ [eN j])])) := fun a13 z e1 e2 e3 => k2 _ _ ⟨fs ++ [j], _, _, rfl, by rw [map_snoc], by rw [List.length_append]; exact Nat.succ_le_succ f1, fun k hk => by
          rcases List.mem_append.mp hk with hk | hk
          · exact f2 k hk
          · rw [List.mem_singleton.mp hk]
            exact ⟨v, z, hv, e1, e2, e3⟩, fun _ => by simp⟩
        have sm : (fs.map eN).length < sizeLine := small_lt (by rw [List.length_map]; omega)
        generalize siz σ v = o at skip take ⊢
        repeat walk_at "g"
        refine i_ixT (at_nat (by rw [List.getElem?_map, hv]; rfl)) ?_
        repeat walk_at "g"
        walk_at "gi"
        · rename_i hpl
          have hpl' : v.plug = goal := by omega
          repeat walk_at "g"
          rw [isNon_on]
          cases o with
          | none =>
            refine i_no rfl ?_
            repeat walk_at "g"
            exact skip _ _ (fun _ h => nomatch h)
          | some z =>
            refine i_yes rfl ?_
            repeat walk_at "g"
            refine i_ixL lookM0 zgoal ?_
            repeat walk_at "g"
            walk_at "gi"
            · rename_i hzz
              repeat walk_at "g"
              refine i_isl look ?_
              repeat walk_at "g"
              refine i_append look sm ?_
              rw [look_set]
              repeat walk_at "g"
              exact take _ z hpl' rfl (by omega)
            · rename_i hzz
              repeat walk_at "g"
              refine i_lenL lookM2 ?_
              rw [List.length_map]
              repeat walk_at "g"
              walk_at "gi"
              · repeat walk_at "g"
                refine i_isl look ?_
                repeat walk_at "g"
                refine i_append look sm ?_
                rw [look_set]
                repeat walk_at "g"
                exact take _ z hpl' rfl (by omega)
              · repeat walk_at "g"
                exact skip _ _ (fun _ e => by cases e; exact hzz rfl)
        · rename_i hpl
          repeat walk_at "g"
          exact skip _ _ (fun e => absurd (congrArg (fun n : Nat => (n : Int)) e) hpl)
  · show addO (σ st) (some 0) = some z0
    rw [hz0]
    exact congrArg some (Nat.add_zero z0)
  · show Pre vars [st] ks (0 + p)
    rw [Int.zero_add]
    exact h
end W
namespace W
/-! ### a family of many states -/
structure FamL (low : Int) (f : Fam) : Prop where
  ok : FamG 1000 f
  pos : low = 0 → ∀ v ∈ f.vars, ∀ i, v.price = some i → 0 ≤ i
  roots : ∀ r ∈ f.roots, r < f.count
  asc : f.roots.Pairwise (· < ·)
  size : f.count ≤ 40 ∧ f.vars.length ≤ 80
def spLarge : Rel := fun ds S Q => ∃ (T : Tape) (low : Int) (L : Sto), ds = [.loc 1, .int low] ∧ 0 ≤ low ∧ low ≤ 1 ∧ S = T.enc ++ L ∧ ∀ (f : Fam) (T' : Tape), FamL low f → Q f.enc (T'.enc ++ L)
theorem large_ok {ds : List D} {S : Sto} {Q : D → Sto → Prop} (h : spLarge ds S Q) (c : ClS S) : b__law_large spDraw (fnE S Q) (ds.map some ++ List.replicate 9 none) S := by
  obtain ⟨T, low, L, rfl, hl0, hl1, rfl, q⟩ := h
  show b__law_large spDraw (fnE (T.enc ++ L) Q) [some (.loc 1), some (.int low), none, none, none, none, none, none, none, none, none] (T.enc ++ L)
  unfold b__law_large
  repeat walk_at "g"
  refine use_draw (by decide) (by decide) fun kc T1 hc0 hc1 => ?_
  obtain ⟨c0, rfl⟩ := nat_of hc0
  refine i_add ?_
  rw [show (20 : Int) + (c0 : Int) = ((c0 + 20 : Nat) : Int) by omega]
  have hcn : c0 + 20 ≤ 40 := by omega
  have hc20 : 20 ≤ c0 + 20 := by omega
  generalize c0 + 20 = count at hcn hc20
  repeat walk_at "g"
  refine use_draw (by decide) (by decide) fun ks T2 hs0 hs1 => ?_
  obtain ⟨s0, rfl⟩ := nat_of hs0
  refine i_add ?_
  rw [show (1 : Int) + (s0 : Int) = ((s0 + 1 : Nat) : Int) by omega]
  have hsn : s0 + 1 ≤ 7 := by omega
  generalize s0 + 1 = step at hsn
  repeat walk_at "g"
  refine use_draw (by decide) (by decide) fun ring T3 _ _ => ?_
  repeat walk_at "g"
  refine use_draw (by decide) (by decide) fun kf T4 hf0 hf1 => ?_
  repeat walk_at "g"
  refine use_draw (by decide) (by decide) fun kl T5 hk0 hk1 => ?_
  repeat walk_at "g"
  rw [tape_len]
  refine ⟨⟨by omega, by omega⟩, ?_⟩
  rw [Int.toNat_natCast]
  refine each_rng (fun i γ S' => ∃ (rows : List Vt) (a8 a9 a10 : Option D), γ = [some (.loc 1), some (.int low), some (.int count), some (.int step), some (.int ring), some (.int (1 + kf)), some (.int (1 + kl)), some (.loc (L.length + 2)), a8, a9, a10] ∧
    S' = T5.enc ++ (L ++ [.lst (rows.map Vt.enc)]) ∧ rows.length ≤ 2 * i ∧ ∀ v ∈ rows, VtG count 1000 v ∧ (low = 0 → ∀ i, v.price = some i → 0 ≤ i)) 0 count ?_ ?_ ⟨[], none, none, none, rfl, by rw [← List.append_assoc]; rfl, Nat.zero_le _, fun _ h => absurd h List.not_mem_nil⟩
  · rintro γ S' ⟨rows, a8, a9, a10, rfl, rfl, h1, h2⟩
    repeat walk_at "g"
    refine i_div (wide_div (b := 64) (by decide) (by decide) (by decide) (by decide)) ?_
    repeat walk_at "g"
    rw [tape_len, List.append_assoc T5.enc]
    refine use_draw (by decide) (by decide) fun kd T6 hd0 hd1 => ?_
    obtain ⟨d, rfl⟩ := nat_of hd0
    repeat walk_at "g"
    rw [show ((count : Int) / 2) = ((count / 2 : Nat) : Int) by omega]
    refine i_slL look ?_
    repeat walk_at "g"
    refine i_tupleL List.getElem?_concat_length ?_
    repeat walk_at "g"
    rw [List.append_assoc, List.append_assoc, List.append_assoc]
    refine i_tupleL look ?_
    repeat walk_at "g"
    have hd : d = 0 ∨ d = 1 := by omega
    have fin : ∀ roots : List Nat, (∀ r ∈ roots, r < count) → roots.Pairwise (· < ·) → ∀ g : Sto, Kp (T.enc ++ L) Q (.tup [.int count, .tup (roots.map eN), .tup (rows.map Vt.enc)]) (T6.enc ++ (L ++ g)) := fun roots h3 h4 g =>
      kp_drop c (Fam.cl ⟨count, roots, rows⟩) (q ⟨count, roots, rows⟩ T6 ⟨⟨show 1 ≤ count by omega, show count ≤ 1000 by omega, fun v hv => (h2 v hv).1, show rows.length ≤ 1000 by omega⟩, fun hl v hv => (h2 v hv).2 hl, h3, h4, hcn, show rows.length ≤ 80 by omega⟩)
    rcases hd with rfl | rfl
    · exact fin [0, count / 2] (fun r hr => by
        rcases List.mem_cons.mp hr with rfl | hr
        · omega
        · rw [List.mem_singleton.mp hr]
          omega) (List.pairwise_cons.mpr ⟨fun x hx => by rw [List.mem_singleton.mp hx]; omega, List.pairwise_singleton _ _⟩) _
    · exact fin [count / 2] (fun r hr => by rw [List.mem_singleton.mp hr]; omega) (List.pairwise_singleton _ _) _
  · rintro i γ S' R hi ⟨rows, a8, a9, a10, rfl, rfl, h1, h2⟩ k
    rw [show (0 : Int) + (i : Int) = (i : Int) by omega]
    have sm : (rows.map Vt.enc).length < sizeLine := small_lt (by rw [List.length_map]; omega)
    repeat walk_at "g"
    refine i_mul (.inl (.inr ⟨by omega, by omega⟩)) ?_
    repeat walk_at "g"
    have hmod := Int.emod_nonneg ((i : Int) * (1 + kf) + step) (show (10 : Int) ≠ 0 by decide)
    have hmod2 := Int.emod_lt_of_pos ((i : Int) * (1 + kf) + step) (show (0 : Int) < 10 by decide)
    generalize ((i : Int) * (1 + kf) + step) % 10 = pm at hmod hmod2
    have hi10 := Int.emod_nonneg (i : Int) (show (10 : Int) ≠ 0 by decide)
    have hi11 := Int.emod_lt_of_pos (i : Int) (show (0 : Int) < 10 by decide)
    have leaf : ∀ (rows : List Vt) (a9 a10 : Option D), rows.length ≤ 2 * i + 1 → (∀ v ∈ rows, VtG count 1000 v ∧ (low = 0 → ∀ i, v.price = some i → 0 ≤ i)) →
        sIf (bTest (gBin (dEq false) (gBin dMod (gCall bInt (aCons (gVar 8) (aNil))) (gVar 6)) (gC (.int 0)))) (sExpr (gMeth mAppend (gVar 7) (aCons (gTup (aCons (gVar 8) (aCons (gTup (aNil)) (aCons (gBin dSub (gBin dSub (gC (.int 9)) (gBin dMul (gC (.int 4)) (gVar 1))) (gBin dMod (gCall bInt (aCons (gVar 8) (aNil))) (gC (.int 10)))) (aNil))))) (aNil)))) (sNext)
          { nx := R, rt := (fnE (T.enc ++ L) Q).rt, bk := sRet (gTup (aCons (gVar 2) (aCons (gCall bTuple (aCons (gSl (gLst (aCons (gC (.int 0)) (aCons (gBin dDiv (gVar 2) (gC (.int 2))) (aNil)))) (pSome (gFn spDraw [] (aCons (gVar 0) (aCons (gC (.int 2)) (aNil))))) (pNone)) (aNil))) (aCons (gCall bTuple (aCons (gVar 7) (aNil))) (aNil))))) (fnE (T.enc ++ L) Q), ct := R }
          [some (.loc 1), some (.int low), some (.int count), some (.int step), some (.int ring), some (.int (1 + kf)), some (.int (1 + kl)), some (.loc (L.length + 2)), some (.int i), a9, a10] (T5.enc ++ (L ++ [.lst (rows.map Vt.enc)])) := fun rows a9 a10 g1 g2 => by
      have sm : (rows.map Vt.enc).length < sizeLine := small_lt (by rw [List.length_map]; omega)
      repeat walk_at "g"
      refine i_mod (by omega) ?_
      repeat walk_at "g"
      walk_at "gi"
      · repeat walk_at "g"
        refine i_isl look ?_
        repeat walk_at "g"
        refine i_append look sm ?_
        rw [look_set]
        repeat walk_at "g"
        refine k _ _ ⟨rows ++ [⟨i, [], some (9 - 4 * low - (i : Int) % 10)⟩], _, _, _, rfl, by rw [← map_snoc]; rfl, by rw [List.length_append, List.length_singleton]; omega, fun v hv => ?_⟩
        rcases List.mem_append.mp hv with hv | hv
        · exact g2 v hv
        · rw [List.mem_singleton.mp hv]
          exact ⟨⟨hi, fun _ h => absurd h List.not_mem_nil, Nat.zero_le _, fun z e => by cases e; omega⟩, fun e z ez => by cases ez; omega⟩
      · repeat walk_at "g"
        exact k _ _ ⟨rows, _, _, _, rfl, rfl, by omega, g2⟩
    have goal : ∀ g : Nat, sSeq (sIf (bTest (gBin dLt (gVar 10) (gVar 2))) (sExpr (gMeth mAppend (gVar 7) (aCons (gTup (aCons (gVar 8) (aCons (gTup (aCons (gVar 10) (aNil))) (aCons (gVar 9) (aNil))))) (aNil)))) (sNext))
        (sIf (bTest (gBin (dEq false) (gBin dMod (gCall bInt (aCons (gVar 8) (aNil))) (gVar 6)) (gC (.int 0)))) (sExpr (gMeth mAppend (gVar 7) (aCons (gTup (aCons (gVar 8) (aCons (gTup (aNil)) (aCons (gBin dSub (gBin dSub (gC (.int 9)) (gBin dMul (gC (.int 4)) (gVar 1))) (gBin dMod (gCall bInt (aCons (gVar 8) (aNil))) (gC (.int 10)))) (aNil))))) (aNil)))) (sNext))
          { nx := R, rt := (fnE (T.enc ++ L) Q).rt, bk := sRet (gTup (aCons (gVar 2) (aCons (gCall bTuple (aCons (gSl (gLst (aCons (gC (.int 0)) (aCons (gBin dDiv (gVar 2) (gC (.int 2))) (aNil)))) (pSome (gFn spDraw [] (aCons (gVar 0) (aCons (gC (.int 2)) (aNil))))) (pNone)) (aNil))) (aCons (gCall bTuple (aCons (gVar 7) (aNil))) (aNil))))) (fnE (T.enc ++ L) Q), ct := R }
          [some (.loc 1), some (.int low), some (.int count), some (.int step), some (.int ring), some (.int (1 + kf)), some (.int (1 + kl)), some (.loc (L.length + 2)), some (.int i), some (.int (pm - 4 * low)), some (.int g)] (T5.enc ++ (L ++ [.lst (rows.map Vt.enc)])) := fun g => by
      repeat walk_at "g"
      walk_at "gi"
      · rename_i hg
        repeat walk_at "g"
        refine i_isl look ?_
        repeat walk_at "g"
        refine i_append look sm ?_
        rw [look_set, show (D.tup [D.int (i : Int), D.tup [D.int (g : Int)], D.int (pm - 4 * low)]) = Vt.enc ⟨i, [g], some (pm - 4 * low)⟩ from rfl, map_snoc]
        refine leaf (rows ++ [⟨i, [g], some (pm - 4 * low)⟩]) _ _ (by rw [List.length_append, List.length_singleton]; omega) fun v hv => ?_
        rcases List.mem_append.mp hv with hv | hv
        · exact h2 v hv
        · rw [List.mem_singleton.mp hv]
          exact ⟨⟨hi, fun s hs => by rw [List.mem_singleton.mp hs]; omega, by show 1 ≤ 3; decide, fun z e => by cases e; omega⟩, fun e z ez => by cases ez; omega⟩
      · exact leaf rows _ _ (by omega) h2
    walk_at "gi"
    · repeat walk_at "g"
      refine i_mod (by omega) ?_
      rw [show (((i : Int) + step) % count) = (((i + step) % count : Nat) : Int) by rw [Int.natCast_emod, Int.natCast_add]]
      exact goal _
    · repeat walk_at "g"
      rw [← Int.natCast_add]
      exact goal _
/-! ### prices times a factor -/
def Vt.times (k : Int) (v : Vt) : Vt := ⟨v.plug, v.slots, v.price.map (· * k)⟩
def Fam.times (k : Int) (f : Fam) : Fam := ⟨f.count, f.roots, f.vars.map (Vt.times k)⟩
theorem times_fam {B : Nat} {k : Int} {f : Fam} (h : FamG B f) : FamG (B * k.natAbs) (f.times k) := by
  refine ⟨h.one, h.most, fun v hv => ?_, by show (f.vars.map _).length ≤ _; rw [List.length_map]; exact h.few⟩
  obtain ⟨w, hw, rfl⟩ := List.mem_map.mp hv
  have g := h.vars w hw
  refine ⟨g.plug, g.slots, g.few, fun i e => ?_⟩
  have e' : w.price.map (· * k) = some i := e
  cases hp : w.price with
  | none => rw [hp] at e'; cases e'
  | some p =>
    rw [hp] at e'
    cases e'
    rw [Int.natAbs_mul]
    exact Nat.mul_le_mul_right _ (g.price p hp)
def spTimes : Rel := fun ds S Q => ∃ (f : Fam) (B : Nat) (k : Int), ds = [f.enc, .int k] ∧ FamG B f ∧ B < 2 ^ 200 ∧ k.natAbs < 2 ^ 200 ∧ Q (f.times k).enc S
theorem times_ok {ds : List D} {S : Sto} {Q : D → Sto → Prop} (h : spTimes ds S Q) (c : ClS S) : b__law_times (fnE S Q) (ds.map some ++ List.replicate 3 none) S := by
  obtain ⟨f, B, k, rfl, hf, hB, hk, q⟩ := h
  obtain ⟨count, roots, vars⟩ := f
  show b__law_times (fnE S Q) [some (.tup [eN count, .tup (roots.map eN), .tup (vars.map Vt.enc)]), some (.int k), none, none, none] S
  have hfew : vars.length ≤ 1000 := hf.few
  unfold b__law_times
  repeat walk_at "g"
  refine each_pre Vt.enc vars (fun pre γ S' => ∃ (a3 a4 : Option D), γ = [some (.tup [eN count, .tup (roots.map eN), .tup (vars.map Vt.enc)]), some (.int k), some (.loc S.length), a3, a4] ∧ S' = S ++ [.lst ((pre.map (Vt.times k)).map Vt.enc)]) (fun _ _ _ _ => trivial) ?_ ?_ ⟨none, none, rfl, rfl⟩
  · rintro γ S' ⟨a3, a4, rfl, rfl⟩
    repeat walk_at "g"
    refine i_tupleL rowAt ?_
    repeat walk_at "g"
    exact kp_pre c (Nat.le_refl _) (Fam.cl (Fam.times k ⟨count, roots, vars⟩)) q
  · rintro pre v post γ S' R hv ⟨a3, a4, rfl, rfl⟩ kk
    have hvm : v ∈ vars := by rw [hv]; exact List.mem_append_right _ List.mem_cons_self
    have hlen : pre.length < vars.length := by rw [hv, List.length_append, List.length_cons]; omega
    have hvg : VtG count B v := hf.vars v hvm
    have sm : ((pre.map (Vt.times k)).map Vt.enc).length < sizeLine := small_lt (by rw [List.length_map, List.length_map]; omega)
    obtain ⟨pl, sl, pr⟩ := v
    repeat walk_at "g"
    rw [isNon_oi]
    cases pr with
    | none =>
      refine i_no rfl ?_
      repeat walk_at "g"
      refine i_isl rowAt ?_
      repeat walk_at "g"
      refine i_append rowAt sm ?_
      rw [rowSet]
      repeat walk_at "g"
      refine kk _ _ ⟨_, _, rfl, ?_⟩
      rw [← map_snoc (Vt.times k), ← map_snoc Vt.enc]
      rfl
    | some pz =>
      refine i_yes rfl ?_
      repeat walk_at "g"
      have hpz := hvg.price pz rfl
      refine i_mul (.inr (wide_mul (a := 200) (b := 200) (by omega) hk (by decide) (by decide) (by decide))) ?_
      repeat walk_at "g"
      refine i_isl rowAt ?_
      repeat walk_at "g"
      refine i_append rowAt sm ?_
      rw [rowSet]
      repeat walk_at "g"
      refine kk _ _ ⟨_, _, rfl, ?_⟩
      rw [← map_snoc (Vt.times k), ← map_snoc Vt.enc]
      rfl
theorem i_minL {S : Sto} {Q : D → Sto → Prop} {l : Nat} {xs : List D} {ns : List Int} (e1 : S[l]? = some (.lst xs)) (e2 : ints? xs = some ns) (h : 0 < ns.length) (q : ∀ m, m ∈ ns → (∀ y, y ∈ ns → m ≤ y) → Q (.int m) S) : bMinL [.loc l] S Q := by
  show (match S[l]? with
    | some (.lst ds) => match ints? ds with
      | some ns => 0 < ns.length ∧ ∀ m, m ∈ ns → (∀ y, y ∈ ns → m ≤ y) → Q (.int m) S
      | none => False
    | _ => False)
  rw [e1]
  show (match ints? xs with
      | some ns => 0 < ns.length ∧ ∀ m, m ∈ ns → (∀ y, y ∈ ns → m ≤ y) → Q (.int m) S
      | none => False)
  rw [e2]
  exact ⟨h, q⟩
end W
namespace W
def b_lawR (R__law_tape : Rel) (R__law_draw : Rel) (R__law_family : Rel) (R__law_times : Rel) (R__law_large : Rel) (R__law_case : Rel) (R__law_same : Rel) (R_least_by_size : Rel) (R__law_reach : Rel) (R__law_counts : Rel) (R__law_trees : Rel) (R__law_sizes : Rel) (R__law_tree : Rel) (R__law_priced : Rel) : GTS :=
  (sSeq (sAsg (gLst (aCons (gFn R__law_case [] (aCons (gVar 1) (aCons (gVar 3) (aNil)))) (aCons (gFn R__law_case [] (aCons (gVar 1) (aCons (gVar 4) (aNil)))) (aNil)))) (tName 5))
  (sSeq (sFor (wSeq (gLst (aCons (gBin dIx (gVar 5) (gC (.int 0))) (aCons (gBin dIx (gVar 5) (gC (.int 1))) (aCons (gBin dIx (gVar 5) (gC (.int 0))) (aNil)))))) (tName 6)
  (sIf (bNot (bTruth (gFn R__law_same [] (aCons (gFn R_least_by_size [] (aCons (gBin dIx (gVar 6) (gC (.int 0))) (aCons (gBin dIx (gVar 6) (gC (.int 1))) (aCons (gBin dIx (gVar 6) (gC (.int 2))) (aNil))))) (aCons (gBin dIx (gVar 6) (gC (.int 3))) (aNil)))))) (sRet (gC (.bl false))) (sNext)))
  (sSeq (sAsg (gBin dIx (gBin dIx (gVar 5) (gC (.int 1))) (gC (.int 1))) (tName 7))
  (sSeq (sAsg (gFn R_least_by_size [] (aCons (gVar 4) (aCons (gVar 7) (aCons (gBin dIx (gBin dIx (gVar 5) (gC (.int 1))) (gC (.int 2))) (aNil))))) (tName 8))
  (sSeq (sAsg (gFn R__law_reach [] (aCons (gFn R__law_counts [] (aCons (gVar 4) (aCons (gBin dIx (gBin dIx (gVar 5) (gC (.int 1))) (gC (.int 2))) (aNil)))) (aCons (gC (.int 100)) (aNil)))) (tName 9))
  (sSeq (sAsg (gFn R__law_trees [] (aCons (gVar 4) (aCons (gVar 9) (aNil)))) (tName 10))
  (sSeq (sFor (wRange2 (aCons (gC (.int 1)) (aCons (gBin dAdd (gVar 9) (gC (.int 1))) (aNil)))) (tName 11)
  (sSeq (sAsg (gLc (wSeq (gBin dIx (gBin dIx (gVar 10) (gVar 11)) (gVar 7))) (tName 14) (bYes) (gBin dIx (gVar 14) (gC (.int 0))) [14]) (tName 13))
  (sIf (bOr (bTest (gBin (dEq true) (gBin (dIs false) (gBin dIx (gVar 8) (gBin dSub (gVar 11) (gC (.int 1)))) (gC .non)) (gNot (gVar 13)))) (bAnd (bTruth (gVar 13)) (bTest (gBin (dEq true) (gBin dIx (gVar 8) (gBin dSub (gVar 11) (gC (.int 1)))) (gCall bMinL (aCons (gVar 13) (aNil))))))) (sRet (gC (.bl false))) (sNext))))
  (sSeq (sAsg (gFn R__law_sizes [] (aCons (gVar 4) (aNil))) (tName 12))
  (sSeq (sIf (bAnd (bTest (gBin (dIs true) (gBin dIx (gVar 12) (gVar 7)) (gC .non))) (bTest (gBin dLe (gBin dIx (gVar 12) (gVar 7)) (gBin dIx (gBin dIx (gVar 5) (gC (.int 1))) (gC (.int 2)))))) (sSeq (sAsg (gFn R__law_tree [] (aCons (gVar 1) (aCons (gVar 4) (aCons (gVar 12) (aCons (gVar 7) (aCons (gBin dIx (gBin dIx (gVar 5) (gC (.int 1))) (gC (.int 2))) (aNil))))))) (tName 14))
  (sRet (gAnd (gBin (dIs true) (gBin dIx (gVar 8) (gBin dSub (gCall bLen (aCons (gVar 14) (aNil))) (gC (.int 1)))) (gC .non)) (gBin dGe (gFn R__law_priced [] (aCons (gVar 4) (aCons (gVar 14) (aNil)))) (gBin dIx (gVar 8) (gBin dSub (gCall bLen (aCons (gVar 14) (aNil))) (gC (.int 1)))))))) (sNext))
  (sRet (gC (.bl true))))))))))))
/-! ### bounds -/
theorem fil_bound {r : Nat → Nat → List Tr} {B : Nat} (h : ∀ i s x, x ∈ r i s → x.1.natAbs ≤ i * B) : ∀ (ss : List Nat) (p : Nat) (x : Tr), x ∈ fil r ss p → x.1.natAbs ≤ p * B
  | [], p, x, hx => by
    unfold fil at hx
    split at hx
    · rw [List.mem_singleton.mp hx]
      exact Nat.zero_le _
    · cases hx
  | s :: ss, p, x, hx => by
    unfold fil at hx
    obtain ⟨i, hi, hx⟩ := List.mem_flatMap.mp hx
    obtain ⟨y, hy, hx⟩ := List.mem_flatMap.mp hx
    obtain ⟨z, hz, rfl⟩ := List.mem_map.mp hx
    have h1 := fil_bound h ss _ y hy
    have h2 := h _ _ z hz
    have h3 := List.mem_range.mp hi
    have e : (i + 1) * B + (p - (i + 1)) * B = p * B := by rw [← Nat.add_mul, show i + 1 + (p - (i + 1)) = p by omega]
    have h4 := Int.natAbs_add_le z.1 y.1
    show (z.1 + y.1).natAbs ≤ _
    omega
theorem tb_bound {B : Nat} {f : Fam} (hf : FamG B f) : ∀ (k n s : Nat) (x : Tr), x ∈ tb f.vars k n s → x.1.natAbs ≤ n * B
  | 0, _, _, _, h => by cases h
  | k + 1, n, s, x, h => by
    unfold tb at h
    split at h
    · rename_i e
      subst e
      unfold lvl at h
      obtain ⟨⟨v, j⟩, hv, h⟩ := List.mem_flatMap.mp h
      have hv' : v ∈ f.vars := by
        have := List.mem_zipIdx hv
        rw [this.2.2]
        exact List.getElem_mem _
      unfold lvlV at h
      cases hp : v.price with
      | none =>
        dsimp only at h
        rw [hp] at h
        cases h
      | some p =>
        dsimp only at h
        rw [hp] at h
        dsimp only at h
        split at h
        · obtain ⟨y, hy, rfl⟩ := List.mem_map.mp h
          have h1 := fil_bound (tb_bound hf k) _ _ y hy
          rw [Nat.add_sub_cancel] at h1
          have h2 := (hf.vars v hv').price p hp
          have h3 := Int.natAbs_add_le p y.1
          show (p + y.1).natAbs ≤ (k + 1) * B
          rw [Nat.succ_mul]
          omega
        · cases h
    · exact tb_bound hf k n s x h
theorem ltb_bound {B : Nat} {f : Fam} (hf : FamG B f) {k n s : Nat} {i : Int} (h : ltb f.vars k n s = some i) : i.natAbs ≤ n * B := by
  rw [ltb_mn] at h
  obtain ⟨x, hx, rfl⟩ := List.mem_map.mp (minO_mem h)
  exact tb_bound hf k n s x hx
theorem FamG.mono {B C : Nat} {f : Fam} (h : FamG B f) (hBC : B ≤ C) : FamG C f := ⟨h.one, h.most, fun v hv => ⟨(h.vars v hv).plug, (h.vars v hv).slots, (h.vars v hv).few, fun i e => Nat.le_trans ((h.vars v hv).price i e) hBC⟩, h.few⟩
theorem FamOk.g {st va : Nat} {low : Int} {f : Fam} (h : FamOk st va low f) (h1 : va + st ≤ 1000) : FamG 1000000000 f := ⟨h.one, by have := h.most; omega, fun v hv => ⟨(h.vars v hv).plug, (h.vars v hv).slots, (h.vars v hv).few, fun i e => ((h.vars v hv).price i e).1⟩, by have := h.few; omega⟩
theorem told_same {B : Nat} {f : Fam} (hf : FamG B f) (hB : B < 2 ^ 150) {st top : Nat} (ht : top ≤ 20) {S : Sto} {Q : D → Sto → Prop} (q : Q (.bl true) S) : spSame [told f.vars st top, told f.vars st top] S Q := by
  have e : told f.vars st top = .tup (((List.range top).map fun i => ltb f.vars top (i + 1) st).map oi) := by
    unfold told
    rw [List.map_map]
    rfl
  rw [e]
  refine use_same (fun i hi => ?_) (by rw [List.length_map, List.length_range]; omega) q
  obtain ⟨j, hj, e⟩ := List.mem_map.mp hi
  have hj' := List.mem_range.mp hj
  have z := ltb_bound hf e
  have z2 : (j + 1) * B ≤ 20 * B := Nat.mul_le_mul_right _ (by omega)
  have z3 : (20 : Nat) * 2 ^ 150 < 2 ^ 200 := by decide
  omega
theorem TabT.get {b : Nat} {S : Sto} {l top n i s : Nat} {r : Nat → Nat → List Tr} (h : TabT b S l top n r) (hi : i < top) (hs : s < n) : ∃ xs q row w, S[l]? = some (.lst xs) ∧ atI xs (i : Int) = some (.loc q) ∧ S[q]? = some (.lst row) ∧ atI row (s : Int) = some (.loc w) ∧ S[w]? = some (.lst ((r i s).map encT)) := by
  obtain ⟨pl, h1, h2⟩ := h
  obtain ⟨xs, q, e1, _, e2, e3⟩ := h1.row hi
  exact ⟨xs, q, _, _, e1, e2, e3, at_nat (rowD_at hs), (h2 i s hi hs).2⟩
theorem told_at {vars : List Vt} {st top i : Nat} (h : i < top) : atI ((List.range top).map fun i => oi (ltb vars top (i + 1) st)) (i : Int) = some (oi (ltb vars top (i + 1) st)) := at_nat (rowD_at (f := fun i => oi (ltb vars top (i + 1) st)) h)
theorem menuF {k : Int} (h0 : 0 ≤ k) (h1 : k < 4) : ∃ m : Int, atI [D.int 1, .int 1, .int 1, .int (10 ^ Int.toNat 30)] k = some (.int m) ∧ m.natAbs ≤ 10 ^ 30 := by
  have h : k = 0 ∨ k = 1 ∨ k = 2 ∨ k = 3 := by omega
  rcases h with rfl | rfl | rfl | rfl
  · exact ⟨1, rfl, by decide⟩
  · exact ⟨1, rfl, by decide⟩
  · exact ⟨1, rfl, by decide⟩
  · exact ⟨10 ^ 30, rfl, by decide⟩
abbrev cse (f : Fam) (st top : Nat) : D := .tup [f.enc, eN st, eN top, told f.vars st top]
theorem lawR_ok {Q : D → Sto → Prop} (q : ∀ S', Q (.bl true) S') {B : Nat} {f1 f2 : Fam} (hf1 : FamG B f1) (hf2 : FamG B f2) (hB : B < 2 ^ 150) {T : Tape} {L : Sto} {a0 a2 : Option D} :
    b_lawR spTape spDraw spFamily spTimes spLarge spCase spSame spBySize spReach spCounts spTrees spSizes spTree spPriced (fnE [] Q) [a0, some (.loc 1), a2, some f1.enc, some f2.enc, none, none, none, none, none, none, none, none, none, none] (T.enc ++ L) := by
  have fin : ∀ S', (fnE [] Q).rt (.bl true) S' := fun S' => i_fin (q S')
  unfold b_lawR
  repeat walk_at "g"
  refine ⟨T, f1, B, L, rfl, hf1, rfl, fun T1 X1 st1 top1 hs1 ht1 ht1' => ?_⟩
  repeat walk_at "g"
  refine ⟨T1, f2, B, L ++ X1, rfl, hf2, rfl, fun T2 X2 st top hst ht0 ht => ?_⟩
  repeat walk_at "g"
  rw [tape_len, List.append_assoc T2.enc]
  generalize L ++ X1 ++ X2 = L2
  repeat walk_at "g"
  refine i_ixL look (at0 _ _) ?_
  repeat walk_at "g"
  refine i_ixL look (at1 _ _ _) ?_
  repeat walk_at "g"
  refine i_ixL look (at0 _ _) ?_
  repeat walk_at "g"
  refine i_onSL List.getElem?_concat_length ?_
  repeat walk_at "g"
  rw [List.append_assoc T2.enc, List.append_assoc L2]
  generalize hC : ([SO.lst [cse f1 st1 top1, cse f2 st top, cse f1 st1 top1]] : Sto) = C3
  have hok : (T2.enc ++ (L2 ++ ([SO.lst [cse f1 st1 top1, cse f2 st top]] ++ C3)))[(T2.enc ++ (L2 ++ [SO.lst [cse f1 st1 top1, cse f2 st top]])).length]? = some (.lst [cse f1 st1 top1, cse f2 st top, cse f1 st1 top1]) := by
    subst hC
    rw [← List.append_assoc, ← List.append_assoc, List.append_assoc T2.enc]
    exact List.getElem?_concat_length
  have look5 : ∀ {T : Tape} {g : Sto}, (T.enc ++ (L2 ++ ([SO.lst [cse f1 st1 top1, cse f2 st top]] ++ g)))[L2.length + 2]? = some (.lst [cse f1 st1 top1, cse f2 st top]) := look
  refine each_ind (fun xs γ S' => (∀ x ∈ xs, ∃ f s t, FamG B f ∧ s < f.count ∧ t ≤ 20 ∧ x = cse f s t) ∧ ∃ a6, γ = [a0, some (.loc 1), a2, some f1.enc, some f2.enc, some (.loc (L2.length + 2)), a6, none, none, none, none, none, none, none, none] ∧ S' = T2.enc ++ (L2 ++ ([SO.lst [cse f1 st1 top1, cse f2 st top]] ++ C3))) (fun xs γ S' h => ?_) ?_ ?_ _ _ _ ⟨fun x hx => ?_, none, rfl, rfl⟩
  · obtain ⟨_, _, _, rfl⟩ := h
    exact hok
  · -- behind the cases
    rintro γ S' ⟨_, a6, rfl, rfl⟩
    repeat walk_at "g"
    refine i_ixL look5 (at1 _ _ _) ?_
    repeat walk_at "g"
    refine i_ixL look5 (at1 _ _ _) ?_
    repeat walk_at "g"
    refine ⟨f2, B, st, top, rfl, hf2, hst, by omega, ?_⟩
    repeat walk_at "g"
    refine i_ixL look5 (at1 _ _ _) ?_
    repeat walk_at "g"
    refine ⟨f2, top, B, rfl, hf2, by omega, fun X l hct => ?_⟩
    repeat walk_at "g"
    refine ⟨_, l, top, f2.count, cn f2.vars top, 100, rfl, hct, by omega, fun rch hr hsmall => ?_⟩
    repeat walk_at "g"
    have hcn : ∀ n s, n ≤ rch → s < f2.count → cn f2.vars rch n s ≤ 1000000 := fun n s hn hs => by
      cases n with
      | zero =>
        rw [cn_zero]
        exact Nat.zero_le _
      | succ n =>
        have z := hsmall (n + 1) s (by omega) hn hs
        unfold cn at z ⊢
        rw [tb_at (by omega)] at z ⊢
        omega
    refine ⟨f2, rch, B, rfl, hf2, by omega, hcn, fun X2 l2 htr => ?_⟩
    rw [List.append_assoc T2.enc, List.append_assoc T2.enc, List.append_assoc L2, List.append_assoc L2] at htr ⊢
    rw [List.append_assoc ([SO.lst [cse f1 st1 top1, cse f2 st top]] : Sto), List.append_assoc ([SO.lst [cse f1 st1 top1, cse f2 st top]] : Sto)] at htr ⊢
    generalize C3 ++ X ++ X2 = g3 at htr ⊢
    repeat walk_at "g"
    refine ⟨⟨by omega, by omega, by omega, by omega⟩, ?_⟩
    rw [show ((rch : Int) + 1 - 1).toNat = rch by omega]
    refine each_rng (fun i γ S' => ∃ (Y : Sto) (a11 a13 : Option D), γ = [a0, some (.loc 1), a2, some f1.enc, some f2.enc, some (.loc (L2.length + 2)), a6, some (.int st), some (told f2.vars st top), some (.int rch), some (.loc l2), a11, none, a13, none] ∧ S' = T2.enc ++ (L2 ++ ([SO.lst [cse f1 st1 top1, cse f2 st top]] ++ (g3 ++ Y)))) 1 rch ?_ ?_ ⟨[], none, none, rfl, by rw [List.append_nil]⟩
    · -- the drawn tree
      rintro γ S' ⟨Y, a11, a13, rfl, rfl⟩
      repeat walk_at "g"
      refine ⟨f2, B, rfl, hf2, fun σ hfix hpos => ?_⟩
      rw [tape_len, List.append_assoc T2.enc]
      repeat walk_at "g"
      have lookσ : ∀ {T : Tape} {M : Sto}, (T.enc ++ (M ++ [SO.lst (rowD f2.count fun s => on (σ s))]))[M.length + 2]? = some (.lst (rowD f2.count fun s => on (σ s))) := look
      have lookC : ∀ {T : Tape} {g Y : Sto}, (T.enc ++ (L2 ++ ([SO.lst [cse f1 st1 top1, cse f2 st top]] ++ g) ++ Y))[L2.length + 2]? = some (.lst [cse f1 st1 top1, cse f2 st top]) := fun {T g Y} => upA look
      have zst := at_nat (rowD_at (f := fun s => on (σ s)) hst)
      refine i_ixL lookσ zst ?_
      cases hz : σ st with
      | none =>
        rw [hz] at zst
        repeat walk_at "g"
        refine i_no rfl ?_
        repeat walk_at "g"
        exact fin _
      | some z0 =>
        rw [hz] at zst
        repeat walk_at "g"
        refine i_yes rfl ?_
        repeat walk_at "g"
        refine i_ixL lookσ zst ?_
        repeat walk_at "g"
        refine i_ixL lookC (at1 _ _ _) ?_
        repeat walk_at "g"
        walk_at "gi"
        · rename_i hz0
          repeat walk_at "g"
          refine i_ixL lookC (at1 _ _ _) ?_
          repeat walk_at "g"
          refine ⟨T2, f2, B, st, top, _, z0, σ, _, rfl, hf2, List.getElem?_concat_length, hfix, hpos, hst, hz, by omega, by omega, rfl, fun T3 ks hpre hks hlen => ?_⟩
          have hne : 1 ≤ ks.length := by
            cases ks with
            | nil =>
              obtain ⟨e, _⟩ := hpre
              cases e
            | cons _ _ => exact Nat.succ_pos _
          have hlt : ks.length ≤ top := by omega
          have mem := pre_fil ks.length ks [st] _ hpre (Nat.le_refl _)
          rw [fil_one st ks.length fun s => tb_zero] at mem
          have mem2 : (psum f2.vars ks).sum ∈ (tb f2.vars ks.length ks.length st).map (·.1) := List.mem_map.mpr ⟨_, mem, rfl⟩
          have tld := told_at (vars := f2.vars) (st := st) (i := ks.length - 1) (show ks.length - 1 < top by omega)
          rw [show ks.length - 1 + 1 = ks.length by omega, ltb_at (show ks.length ≤ top from hlt)] at tld
          unfold mn at tld
          cases hm : minO ((tb f2.vars ks.length ks.length st).map (·.1)) with
          | none =>
            rw [minO_none.mp hm] at mem2
            cases mem2
          | some m =>
            rw [hm] at tld
            have hle := minO_le hm mem2
            repeat walk_at "g"
            rw [List.length_map, show ((ks.length : Int) - 1) = ((ks.length - 1 : Nat) : Int) by omega]
            refine i_ixT tld ?_
            repeat walk_at "g"
            refine ⟨f2, ks, rfl, hks, by omega, ?_⟩
            repeat walk_at "g"
            rw [List.length_map, show ((ks.length : Int) - 1) = ((ks.length - 1 : Nat) : Int) by omega]
            refine i_ixT tld ?_
            repeat walk_at "g"
            rw [decide_eq_true hle]
            exact fin _
        · repeat walk_at "g"
          exact fin _
    · -- all trees of one size
      rintro i γ S' R hi ⟨Y, a11, a13, rfl, rfl⟩ k
      rw [show (1 : Int) + (i : Int) = ((i + 1 : Nat) : Int) by omega]
      obtain ⟨xs, p1, row, w, e1, e2, e3, e4, e5⟩ := htr.get (i := i + 1) (s := st) (by omega) hst
      have up : ∀ {n : Nat} {o : SO} {Z : Sto}, (T2.enc ++ (L2 ++ ([SO.lst [cse f1 st1 top1, cse f2 st top]] ++ g3)))[n]? = some o → (T2.enc ++ (L2 ++ ([SO.lst [cse f1 st1 top1, cse f2 st top]] ++ (g3 ++ Z))))[n]? = some o := fun {n o Z} h => by
        have z := up_app (X := Z) h
        rw [List.append_assoc, List.append_assoc, List.append_assoc] at z
        exact z
      repeat walk_at "g"
      refine i_ixL (up e1) e2 ?_
      repeat walk_at "g"
      refine i_ixL (up e3) e4 ?_
      repeat walk_at "g"
      refine i_onSL (up e5) ?_
      repeat walk_at "g"
      have hfew : (tb f2.vars rch (i + 1) st).length ≤ 1000000 := hcn (i + 1) st (by omega) hst
      refine comp_pre encT (fun x => .int x.1) (tb f2.vars rch (i + 1) st) hfew (fun Z => up_app (up e5)) (fun x Z Q hx q => ?_) ?_
      · repeat walk_at "g"
        exact q
      · have tld := told_at (vars := f2.vars) (st := st) (i := i) (show i < top by omega)
        have hmin : ltb f2.vars top (i + 1) st = minO ((tb f2.vars rch (i + 1) st).map (·.1)) := by
          rw [ltb_at (by omega), tb_at (show i + 1 ≤ rch by omega)]
          rfl
        rw [hmin] at tld
        have nxt : ∀ Z, R [a0, some (.loc 1), a2, some f1.enc, some f2.enc, some (.loc (L2.length + 2)), a6, some (.int st), some (told f2.vars st top), some (.int rch), some (.loc l2), some (.int ((i + 1 : Nat) : Int)), none, some (.loc (T2.enc ++ (L2 ++ ([SO.lst [cse f1 st1 top1, cse f2 st top]] ++ (g3 ++ Y)))).length), none] (T2.enc ++ (L2 ++ ([SO.lst [cse f1 st1 top1, cse f2 st top]] ++ (g3 ++ Y))) ++ Z) := fun Z => k _ _ ⟨Y ++ Z, _, _, rfl, by simp only [List.append_assoc]⟩
        generalize hP : tb f2.vars rch (i + 1) st = P at hmin tld ⊢
        repeat walk_at "g"
        rw [show (((i + 1 : Nat) : Int) - 1) = (i : Int) by omega]
        refine i_ixT tld ?_
        cases P with
        | nil =>
          repeat walk_at "g"
          refine i_onL rowAt ?_
          repeat walk_at "g"
          refine i_no rfl ?_
          repeat walk_at "g"
          refine i_onL rowAt ?_
          refine i_no rfl ?_
          repeat walk_at "g"
          exact nxt _
        | cons x P =>
          cases hm : minO (List.map (·.1) (x :: P)) with
          | none =>
            have z := minO_none.mp hm
            cases z
          | some m =>
            rw [hm] at tld
            repeat walk_at "g"
            refine i_onL rowAt ?_
            repeat walk_at "g"
            refine i_no rfl ?_
            repeat walk_at "g"
            refine i_onL rowAt ?_
            refine i_yes rfl ?_
            repeat walk_at "g"
            rw [show (((i + 1 : Nat) : Int) - 1) = (i : Int) by omega]
            refine i_ixT tld ?_
            repeat walk_at "g"
            refine i_minL rowAt (ints_map _ _) (by simp) fun m' h1 h2 => ?_
            have hmm : m = m' := by
              have g1 := minO_le hm h1
              have g2 := h2 m (minO_mem hm)
              omega
            repeat walk_at "g"
            rw [decide_eq_true hmm]
            repeat walk_at "g"
            exact nxt _
  · -- a case
    rintro x xs γ S' R ⟨hx, a6, rfl, rfl⟩ k
    obtain ⟨f, s, t, hf, hs, ht, rfl⟩ := hx x List.mem_cons_self
    repeat walk_at "g"
    refine ⟨f, B, s, t, rfl, hf, hs, by omega, ?_⟩
    repeat walk_at "g"
    refine told_same hf hB ht ?_
    repeat walk_at "g"
    exact k _ _ ⟨fun y hy => hx y (List.mem_cons_of_mem _ hy), _, rfl, rfl⟩
  · rcases List.mem_cons.mp hx with rfl | hx
    · exact ⟨f1, st1, top1, hf1, hs1, ht1', rfl⟩
    · rcases List.mem_cons.mp hx with rfl | hx
      · exact ⟨f2, st, top, hf2, hst, ht, rfl⟩
      · rw [List.mem_singleton.mp hx]
        exact ⟨f1, st1, top1, hf1, hs1, ht1', rfl⟩
def spLaw : Rel := fun ds S Q => ∃ ns : List Int, ds = [scr ns] ∧ S = [] ∧ ∀ S', Q (.bl true) S'
theorem law_ok {ds : List D} {S : Sto} {Q : D → Sto → Prop} (h : spLaw ds S Q) : b_law spTape spDraw spFamily spTimes spLarge spCase spSame spBySize spReach spCounts spTrees spSizes spTree spPriced (fnE S Q) (ds.map some ++ List.replicate 14 none) S := by
  obtain ⟨ns, rfl, rfl, q⟩ := h
  show b_law spTape spDraw spFamily spTimes spLarge spCase spSame spBySize spReach spCounts spTrees spSizes spTree spPriced (fnE [] Q) [some (scr ns), none, none, none, none, none, none, none, none, none, none, none, none, none, none] []
  unfold b_law
  repeat walk_at "g"
  refine ⟨ns, rfl, rfl, fun q0 => ?_⟩
  rw [show Tape.enc ⟨ns, 0, 0, q0⟩ = Tape.enc ⟨ns, 0, 0, q0⟩ ++ [] from (List.append_nil _).symm]
  repeat walk_at "g"
  refine use_draw (by decide) (by decide) fun k T1 hk0 hk1 => ?_
  repeat walk_at "g"
  refine ⟨T1, 5, 6, 1, [], rfl, by decide, by decide, by decide, rfl, fun f1 T2 hf1 => ?_⟩
  repeat walk_at "g"
  refine ⟨T2, 5, 6, 1, [], rfl, by decide, by decide, by decide, rfl, fun f2 T3 hf2 => ?_⟩
  repeat walk_at "g"
  rw [tape_len, List.append_assoc]
  refine use_draw (by decide) (by decide) fun k4 T4 hk40 hk41 => ?_
  obtain ⟨m, em, hm⟩ := menuF hk40 hk41
  repeat walk_at "g"
  refine i_ixL look em ?_
  repeat walk_at "g"
  have g1 := hf1.g (by decide)
  have g2 := hf2.g (by decide)
  refine ⟨f2, 1000000000, m, rfl, g2, by decide, Nat.lt_of_le_of_lt hm (by decide), ?_⟩
  have hb : 1000000000 * m.natAbs ≤ 1000000000 * 10 ^ 30 := Nat.mul_le_mul_left _ hm
  have g3 := (times_fam (k := m) g2).mono hb
  repeat walk_at "g"
  walk_at "gi"
  · repeat walk_at "g"
    refine ⟨T4, 1, _, rfl, by decide, by decide, rfl, fun fl T5 hfl => ?_⟩
    repeat walk_at "g"
    exact lawR_ok q (hfl.ok.mono (by decide)) g3 (by decide)
  · repeat walk_at "g"
    exact lawR_ok q (g1.mono (by decide)) g3 (by decide)
end W
namespace W
/-! ### what each def keeps: promises may be weakened; how many are handed in -/
theorem m_Tape : MonoR spTape := fun _ _ _ _ hq ⟨ns, a, b, q⟩ => ⟨ns, a, b, fun x => hq _ _ (q x)⟩
theorem l_Tape : ∀ ds S Q, spTape ds S Q → ds.length = 1 := fun _ _ _ ⟨_, e, _⟩ => by rw [e]; rfl
theorem m_Draw : MonoR spDraw := fun _ _ _ _ hq ⟨T, m, L, a, b, c, d, q⟩ => ⟨T, m, L, a, b, c, d, fun k T' h0 h1 => hq _ _ (q k T' h0 h1)⟩
theorem l_Draw : ∀ ds S Q, spDraw ds S Q → ds.length = 2 := fun _ _ _ ⟨_, _, _, e, _⟩ => by rw [e]; rfl
theorem m_Price : MonoR spPrice := fun _ _ _ _ hq ⟨T, m, l, L, a, b, c, d, q⟩ => ⟨T, m, l, L, a, b, c, d, fun p T' h => hq _ _ (q p T' h)⟩
theorem l_Price : ∀ ds S Q, spPrice ds S Q → ds.length = 3 := fun _ _ _ ⟨_, _, _, _, e, _⟩ => by rw [e]; rfl
theorem m_Family : MonoR spFamily := fun _ _ _ _ hq ⟨T, st, va, l, L, a, b, c, d, e, q⟩ => ⟨T, st, va, l, L, a, b, c, d, e, fun f T' h => hq _ _ (q f T' h)⟩
theorem l_Family : ∀ ds S Q, spFamily ds S Q → ds.length = 4 := fun _ _ _ ⟨_, _, _, _, _, e, _⟩ => by rw [e]; rfl
theorem m_Times : MonoR spTimes := fun _ _ _ _ hq ⟨f, B, k, a, b, c, d, q⟩ => ⟨f, B, k, a, b, c, d, hq _ _ q⟩
theorem l_Times : ∀ ds S Q, spTimes ds S Q → ds.length = 2 := fun _ _ _ ⟨_, _, _, e, _⟩ => by rw [e]; rfl
theorem m_Large : MonoR spLarge := fun _ _ _ _ hq ⟨T, l, L, a, b, c, d, q⟩ => ⟨T, l, L, a, b, c, d, fun f T' h => hq _ _ (q f T' h)⟩
theorem l_Large : ∀ ds S Q, spLarge ds S Q → ds.length = 2 := fun _ _ _ ⟨_, _, _, e, _⟩ => by rw [e]; rfl
theorem m_Same : MonoR spSame := fun _ _ _ _ hq ⟨xs, p, a, b, c, d, e, f, q⟩ => ⟨xs, p, a, b, c, d, e, f, hq _ _ q⟩
theorem l_Same : ∀ ds S Q, spSame ds S Q → ds.length = 2 := fun _ _ _ ⟨_, _, e, _⟩ => by rw [e]; rfl
theorem m_Reach : MonoR spReach := fun _ _ _ _ hq ⟨b, l, t, n, c, m, a, d, e, q⟩ => ⟨b, l, t, n, c, m, a, d, e, fun r h1 h2 => hq _ _ (q r h1 h2)⟩
theorem l_Reach : ∀ ds S Q, spReach ds S Q → ds.length = 2 := fun _ _ _ ⟨_, _, _, _, _, _, e, _⟩ => by rw [e]; rfl
theorem m_Counts : MonoR spCounts := fun _ _ _ _ hq ⟨f, t, B, a, b, c, q⟩ => ⟨f, t, B, a, b, c, fun X l h => hq _ _ (q X l h)⟩
theorem l_Counts : ∀ ds S Q, spCounts ds S Q → ds.length = 2 := fun _ _ _ ⟨_, _, _, e, _⟩ => by rw [e]; rfl
theorem m_Trees : MonoR spTrees := fun _ _ _ _ hq ⟨f, t, B, a, b, c, d, q⟩ => ⟨f, t, B, a, b, c, d, fun X l h => hq _ _ (q X l h)⟩
theorem l_Trees : ∀ ds S Q, spTrees ds S Q → ds.length = 2 := fun _ _ _ ⟨_, _, _, e, _⟩ => by rw [e]; rfl
theorem m_Sizes : MonoR spSizes := fun _ _ _ _ hq ⟨f, B, a, b, q⟩ => ⟨f, B, a, b, fun σ h1 h2 => hq _ _ (q σ h1 h2)⟩
theorem l_Sizes : ∀ ds S Q, spSizes ds S Q → ds.length = 1 := fun _ _ _ ⟨_, _, e, _⟩ => by rw [e]; rfl
theorem m_Size : MonoR spSize := fun _ _ _ _ hq ⟨v, l, n, σ, a, b, c, q⟩ => ⟨v, l, n, σ, a, b, c, hq _ _ q⟩
theorem l_Size : ∀ ds S Q, spSize ds S Q → ds.length = 2 := fun _ _ _ ⟨_, _, _, _, e, _⟩ => by rw [e]; rfl
theorem m_Tree : MonoR spTree := fun _ _ _ _ hq ⟨T, f, B, st, room, lo, z0, σ, L, a, b, c, d, e, f', g, h, i, j, q⟩ => ⟨T, f, B, st, room, lo, z0, σ, L, a, b, c, d, e, f', g, h, i, j, fun T' ks h1 h2 h3 => hq _ _ (q T' ks h1 h2 h3)⟩
theorem l_Tree : ∀ ds S Q, spTree ds S Q → ds.length = 5 := fun _ _ _ ⟨_, _, _, _, _, _, _, _, _, e, _⟩ => by rw [e]; rfl
theorem m_Priced : MonoR spPriced := fun _ _ _ _ hq ⟨f, ks, a, b, c, q⟩ => ⟨f, ks, a, b, c, hq _ _ q⟩
theorem l_Priced : ∀ ds S Q, spPriced ds S Q → ds.length = 2 := fun _ _ _ ⟨_, _, e, _⟩ => by rw [e]; rfl
theorem m_Ways : ∀ d, MonoR (spWays d)
  | 0 => fun _ _ _ _ _ h => h
  | _ + 1 => fun _ _ _ _ hq ⟨b, l, t, n, p, c, ss, a1, a2, a3, a4, a5, a6, a7, a8, q⟩ => ⟨b, l, t, n, p, c, ss, a1, a2, a3, a4, a5, a6, a7, a8, hq _ _ q⟩
theorem l_Ways : ∀ d ds S Q, spWays d ds S Q → ds.length = 3
  | 0, _, _, _, h => False.elim h
  | _ + 1, _, _, _, ⟨_, _, _, _, _, _, _, e, _⟩ => by rw [e]; rfl
theorem m_Fill : ∀ d, MonoR (spFill d)
  | 0 => fun _ _ _ _ _ h => h
  | _ + 1 => fun _ _ _ _ hq ⟨b, l, t, n, p, c, ss, a1, a2, a3, a4, a5, a6, a7, a8, q⟩ => ⟨b, l, t, n, p, c, ss, a1, a2, a3, a4, a5, a6, a7, a8, hq _ _ q⟩
theorem l_Fill : ∀ d ds S Q, spFill d ds S Q → ds.length = 3
  | 0, _, _, _, h => False.elim h
  | _ + 1, _, _, _, ⟨_, _, _, _, _, _, _, e, _⟩ => by rw [e]; rfl
theorem m_Lf (o : Bool) : ∀ d, MonoR (spLf o d)
  | 0 => fun _ _ _ _ _ h => h
  | _ + 1 => fun _ _ _ _ hq ⟨b, l, t, n, p, c, ss, a1, a2, a3, a4, a5, a6, q⟩ => ⟨b, l, t, n, p, c, ss, a1, a2, a3, a4, a5, a6, hq _ _ q⟩
theorem l_Lf (o : Bool) : ∀ d ds S Q, spLf o d ds S Q → ds.length = 3
  | 0, _, _, _, h => False.elim h
  | _ + 1, _, _, _, ⟨_, _, _, _, _, _, _, e, _⟩ => by rw [e]; rfl
theorem m_Case : MonoR spCase := fun _ _ _ _ hq ⟨T, f, B, L, a, b, c, q⟩ => ⟨T, f, B, L, a, b, c, fun T' X st t h1 h2 h3 => hq _ _ (q T' X st t h1 h2 h3)⟩
theorem l_Case : ∀ ds S Q, spCase ds S Q → ds.length = 2 := fun _ _ _ ⟨_, _, _, _, e, _⟩ => by rw [e]; rfl
theorem m_BySize : MonoR spBySize := fun _ _ _ _ hq ⟨f, B, st, m, a, b, c, d, q⟩ => ⟨f, B, st, m, a, b, c, d, hq _ _ q⟩
theorem l_BySize : ∀ ds S Q, spBySize ds S Q → ds.length = 3 := fun _ _ _ ⟨_, _, _, _, e, _⟩ => by rw [e]; rfl
theorem m_Law : MonoR spLaw := fun _ _ _ _ hq ⟨ns, a, b, q⟩ => ⟨ns, a, b, fun S' => hq _ _ (q S')⟩
theorem l_Law : ∀ ds S Q, spLaw ds S Q → ds.length = 1 := fun _ _ _ ⟨_, e, _⟩ => by rw [e]; rfl
theorem start_of {N : List Str} {ds : List D} {n : Nat} (h : ds.length = n) : startD N ds = ds.map some ++ List.replicate (N.length - n) none := by
  unfold startD
  rw [h]
section
variable {P : Program} {w : World} {K : PySem.W.Frag} {mg : Str → Option Value} {base : Heap} {F : Fs}
theorem gfn_none {R : Rel} (h : ∀ ds S Q, ¬ R ds S Q) {f : Addr} {fd : FuncData} {ps : List Str} : GFn P w K mg base CX0 0 f fd ps R := ⟨fun _ _ _ _ _ r => (h _ _ _ r).elim, fun _ _ _ r => (h _ _ _ r).elim, fun _ _ _ _ _ _ _ _ _ _ _ _ _ _ _ _ _ _ _ r => (h _ _ _ r).elim⟩
theorem walk_all (T : Tx K mg F) : GFn P w K mg base CX0 6 F.a_law F.d_law ["_law_script"] spLaw := by
  have G0_least_filling : GFn P w K mg base CX0 0 F.a_least_filling F.d_least_filling ["sizes", "slots", "parts"] (spLf true 0) := gfn_none fun _ _ _ h => h
  have G1_least_filling := x_least_filling (P := P) (w := w) (base := base) (k := 0) (by omega) T G0_least_filling (R := spLf true 1) (m_Lf true _) (l_Lf true _) fun ds S Q h c _ => by rw [start_of (l_Lf true _ ds S Q h)]; exact lf_ok h
  have G2_least_filling := x_least_filling (P := P) (w := w) (base := base) (k := 1) (by omega) T G1_least_filling (R := spLf true 2) (m_Lf true _) (l_Lf true _) fun ds S Q h c _ => by rw [start_of (l_Lf true _ ds S Q h)]; exact lf_ok h
  have G3_least_filling := x_least_filling (P := P) (w := w) (base := base) (k := 2) (by omega) T G2_least_filling (R := spLf true 3) (m_Lf true _) (l_Lf true _) fun ds S Q h c _ => by rw [start_of (l_Lf true _ ds S Q h)]; exact lf_ok h
  have G4_least_filling := x_least_filling (P := P) (w := w) (base := base) (k := 3) (by omega) T G3_least_filling (R := spLf true 4) (m_Lf true _) (l_Lf true _) fun ds S Q h c _ => by rw [start_of (l_Lf true _ ds S Q h)]; exact lf_ok h
  have G_least_filling := G4_least_filling
  have G_least_by_size := x_least_by_size (P := P) (w := w) (base := base) T G_least_filling (R := spBySize) m_BySize l_BySize fun ds S Q h c _ => by rw [start_of (l_BySize ds S Q h)]; exact bySize_ok h c
  have G__law_tape := x__law_tape (P := P) (w := w) (base := base) T  (R := spTape) m_Tape l_Tape fun ds S Q h c _ => by rw [start_of (l_Tape ds S Q h)]; exact tape_ok h
  have G__law_draw := x__law_draw (P := P) (w := w) (base := base) T  (R := spDraw) m_Draw l_Draw fun ds S Q h c _ => by rw [start_of (l_Draw ds S Q h)]; exact draw_ok h
  have G__law_price := x__law_price (P := P) (w := w) (base := base) T G__law_draw (R := spPrice) m_Price l_Price fun ds S Q h c _ => by rw [start_of (l_Price ds S Q h)]; exact price_ok h c
  have G__law_family := x__law_family (P := P) (w := w) (base := base) T G__law_draw G__law_price (R := spFamily) m_Family l_Family fun ds S Q h c _ => by rw [start_of (l_Family ds S Q h)]; exact family_ok h c
  have G__law_size := x__law_size (P := P) (w := w) (base := base) T  (R := spSize) m_Size l_Size fun ds S Q h c _ => by rw [start_of (l_Size ds S Q h)]; exact size_ok h
  have G__law_sizes := x__law_sizes (P := P) (w := w) (base := base) T G__law_size (R := spSizes) m_Sizes l_Sizes fun ds S Q h c _ => by rw [start_of (l_Sizes ds S Q h)]; exact sizes_ok h
  have G__law_priced := x__law_priced (P := P) (w := w) (base := base) T  (R := spPriced) m_Priced l_Priced fun ds S Q h c _ => by rw [start_of (l_Priced ds S Q h)]; exact priced_ok h c
  have G__law_tree := x__law_tree (P := P) (w := w) (base := base) T G__law_size G__law_draw (R := spTree) m_Tree l_Tree fun ds S Q h c _ => by rw [start_of (l_Tree ds S Q h)]; exact tree_ok h c
  have G0__law_ways : GFn P w K mg base CX0 0 F.a__law_ways F.d__law_ways ["_law_counts_here", "_law_slots", "_law_parts"] (spWays 0) := gfn_none fun _ _ _ h => h
  have G1__law_ways := x__law_ways (P := P) (w := w) (base := base) (k := 0) (by omega) T G0__law_ways (R := spWays 1) (m_Ways _) (l_Ways _) fun ds S Q h c _ => by rw [start_of (l_Ways _ ds S Q h)]; exact ways_ok h
  have G2__law_ways := x__law_ways (P := P) (w := w) (base := base) (k := 1) (by omega) T G1__law_ways (R := spWays 2) (m_Ways _) (l_Ways _) fun ds S Q h c _ => by rw [start_of (l_Ways _ ds S Q h)]; exact ways_ok h
  have G3__law_ways := x__law_ways (P := P) (w := w) (base := base) (k := 2) (by omega) T G2__law_ways (R := spWays 3) (m_Ways _) (l_Ways _) fun ds S Q h c _ => by rw [start_of (l_Ways _ ds S Q h)]; exact ways_ok h
  have G4__law_ways := x__law_ways (P := P) (w := w) (base := base) (k := 3) (by omega) T G3__law_ways (R := spWays 4) (m_Ways _) (l_Ways _) fun ds S Q h c _ => by rw [start_of (l_Ways _ ds S Q h)]; exact ways_ok h
  have G__law_ways := G4__law_ways
  have G__law_counts := x__law_counts (P := P) (w := w) (base := base) T G__law_ways (R := spCounts) m_Counts l_Counts fun ds S Q h c _ => by rw [start_of (l_Counts ds S Q h)]; exact counts_ok h
  have G__law_reach := x__law_reach (P := P) (w := w) (base := base) T  (R := spReach) m_Reach l_Reach fun ds S Q h c _ => by rw [start_of (l_Reach ds S Q h)]; exact reach_ok h
  have G0__law_fillings : GFn P w K mg base CX0 0 F.a__law_fillings F.d__law_fillings ["_law_rows", "_law_slots", "_law_parts"] (spFill 0) := gfn_none fun _ _ _ h => h
  have G1__law_fillings := x__law_fillings (P := P) (w := w) (base := base) (k := 0) (by omega) T G0__law_fillings (R := spFill 1) (m_Fill _) (l_Fill _) fun ds S Q h c _ => by rw [start_of (l_Fill _ ds S Q h)]; exact fill_ok h c
  have G2__law_fillings := x__law_fillings (P := P) (w := w) (base := base) (k := 1) (by omega) T G1__law_fillings (R := spFill 2) (m_Fill _) (l_Fill _) fun ds S Q h c _ => by rw [start_of (l_Fill _ ds S Q h)]; exact fill_ok h c
  have G3__law_fillings := x__law_fillings (P := P) (w := w) (base := base) (k := 2) (by omega) T G2__law_fillings (R := spFill 3) (m_Fill _) (l_Fill _) fun ds S Q h c _ => by rw [start_of (l_Fill _ ds S Q h)]; exact fill_ok h c
  have G4__law_fillings := x__law_fillings (P := P) (w := w) (base := base) (k := 3) (by omega) T G3__law_fillings (R := spFill 4) (m_Fill _) (l_Fill _) fun ds S Q h c _ => by rw [start_of (l_Fill _ ds S Q h)]; exact fill_ok h c
  have G__law_fillings := G4__law_fillings
  have G__law_trees := x__law_trees (P := P) (w := w) (base := base) T G__law_fillings (R := spTrees) m_Trees l_Trees fun ds S Q h c _ => by rw [start_of (l_Trees ds S Q h)]; exact trees_ok h
  have G__law_same := x__law_same (P := P) (w := w) (base := base) T  (R := spSame) m_Same l_Same fun ds S Q h c _ => by rw [start_of (l_Same ds S Q h)]; exact same_ok h
  have G__law_large := x__law_large (P := P) (w := w) (base := base) T G__law_draw (R := spLarge) m_Large l_Large fun ds S Q h c _ => by rw [start_of (l_Large ds S Q h)]; exact large_ok h c
  have G__law_times := x__law_times (P := P) (w := w) (base := base) T  (R := spTimes) m_Times l_Times fun ds S Q h c _ => by rw [start_of (l_Times ds S Q h)]; exact times_ok h c
  have G0__law_least_filling : GFn P w K mg base CX0 0 F.a__law_least_filling F.d__law_least_filling ["_law_rows", "_law_slots", "_law_parts"] (spLf false 0) := gfn_none fun _ _ _ h => h
  have G1__law_least_filling := x__law_least_filling (P := P) (w := w) (base := base) (k := 0) (by omega) T G0__law_least_filling (R := spLf false 1) (m_Lf false _) (l_Lf false _) fun ds S Q h c _ => by rw [start_of (l_Lf false _ ds S Q h)]; exact lawLf_ok h c
  have G2__law_least_filling := x__law_least_filling (P := P) (w := w) (base := base) (k := 1) (by omega) T G1__law_least_filling (R := spLf false 2) (m_Lf false _) (l_Lf false _) fun ds S Q h c _ => by rw [start_of (l_Lf false _ ds S Q h)]; exact lawLf_ok h c
  have G3__law_least_filling := x__law_least_filling (P := P) (w := w) (base := base) (k := 2) (by omega) T G2__law_least_filling (R := spLf false 3) (m_Lf false _) (l_Lf false _) fun ds S Q h c _ => by rw [start_of (l_Lf false _ ds S Q h)]; exact lawLf_ok h c
  have G4__law_least_filling := x__law_least_filling (P := P) (w := w) (base := base) (k := 3) (by omega) T G3__law_least_filling (R := spLf false 4) (m_Lf false _) (l_Lf false _) fun ds S Q h c _ => by rw [start_of (l_Lf false _ ds S Q h)]; exact lawLf_ok h c
  have G__law_least_filling := G4__law_least_filling
  have G__law_case := x__law_case (P := P) (w := w) (base := base) T G__law_draw G__law_least_filling (R := spCase) m_Case l_Case fun ds S Q h c _ => by rw [start_of (l_Case ds S Q h)]; exact case_ok h
  have G_law := x_law (P := P) (w := w) (base := base) T G__law_tape G__law_draw G__law_family G__law_times G__law_large G__law_case G__law_same G_least_by_size G__law_reach G__law_counts G__law_trees G__law_sizes G__law_tree G__law_priced (R := spLaw) m_Law l_Law fun ds S Q h c _ => by rw [start_of (l_Law ds S Q h)]; exact law_ok h
  exact G_law
end
end W
end
section
open PySem PySem.Spec L2 G
namespace W
theorem all_mk {l : PySem.W.OpenLaw} {w : World} {K : PySem.W.Frag} {h : Heap} {mg : Str → Option Value} {fa f1 f2 f3 f4 f5 f6 f7 f8 f9 f10 f11 f12 f13 f14 f15 f16 f17 f18 f19 f20 f21 : Addr} (X : K.In h) (Gh : h.Ns mainGlobals mg) (hfa : mg "law" = some (.ref fa))
    {od1 an1 od2 an2 od3 an3 od4 an4 od5 an5 od6 an6 od7 an7 od8 an8 od9 an9 od10 an10 od11 an11 od12 an12 od13 an13 od14 an14 od15 an15 od16 an16 od17 an17 od18 an18 od19 an19 od20 an20 od21 an21 : Option Addr} {sl1 sl2 sl3 sl4 sl5 sl6 sl7 sl8 sl9 sl10 sl11 sl12 sl13 sl14 sl15 sl16 sl17 sl18 sl19 sl20 sl21 : Array (Option Value)} {oc1 kV1 dc1 pm1 cd1 ct1 oc2 kV2 dc2 pm2 cd2 ct2 oc3 kV3 dc3 pm3 cd3 ct3 oc4 kV4 dc4 pm4 cd4 ct4 oc5 kV5 dc5 pm5 cd5 ct5 oc6 kV6 dc6 pm6 cd6 ct6 oc7 kV7 dc7 pm7 cd7 ct7 oc8 kV8 dc8 pm8 cd8 ct8 oc9 kV9 dc9 pm9 cd9 ct9 oc10 kV10 dc10 pm10 cd10 ct10 oc11 kV11 dc11 pm11 cd11 ct11 oc12 kV12 dc12 pm12 cd12 ct12 oc13 kV13 dc13 pm13 cd13 ct13 oc14 kV14 dc14 pm14 cd14 ct14 oc15 kV15 dc15 pm15 cd15 ct15 oc16 kV16 dc16 pm16 cd16 ct16 oc17 kV17 dc17 pm17 cd17 ct17 oc18 kV18 dc18 pm18 cd18 ct18 oc19 kV19 dc19 pm19 cd19 ct19 oc20 kV20 dc20 pm20 cd20 ct20 oc21 kV21 dc21 pm21 cd21 ct21 : Value}
    (a1 : PySem.W.nsIn K mainGlobals "least_filling" = some (some (.ref f1))) (l1 : K.lookup f1 = some ⟨oc1, od1, .func (PySem.W.fnOf "least_filling" "least_filling" (defArgs s_least_filling) (defBody s_least_filling) (defScope s_least_filling) .none kV1 dc1 pm1 an1 cd1 ct1), sl1⟩) (c1 : PySem.W.codeIn K cd1 "least_filling" = true) (k1 : PySem.W.keepIn K (.ref f1) = true)
    (a2 : PySem.W.nsIn K mainGlobals "least_by_size" = some (some (.ref f2))) (l2 : K.lookup f2 = some ⟨oc2, od2, .func (PySem.W.fnOf "least_by_size" "least_by_size" (defArgs s_least_by_size) (defBody s_least_by_size) (defScope s_least_by_size) .none kV2 dc2 pm2 an2 cd2 ct2), sl2⟩) (c2 : PySem.W.codeIn K cd2 "least_by_size" = true) (k2 : PySem.W.keepIn K (.ref f2) = true)
    (a3 : PySem.W.nsIn K mainGlobals "_law_tape" = some (some (.ref f3))) (l3 : K.lookup f3 = some ⟨oc3, od3, .func (PySem.W.fnOf "_law_tape" "_law_tape" (defArgs s__law_tape) (defBody s__law_tape) (defScope s__law_tape) .none kV3 dc3 pm3 an3 cd3 ct3), sl3⟩) (c3 : PySem.W.codeIn K cd3 "_law_tape" = true) (k3 : PySem.W.keepIn K (.ref f3) = true)
    (a4 : PySem.W.nsIn K mainGlobals "_law_draw" = some (some (.ref f4))) (l4 : K.lookup f4 = some ⟨oc4, od4, .func (PySem.W.fnOf "_law_draw" "_law_draw" (defArgs s__law_draw) (defBody s__law_draw) (defScope s__law_draw) .none kV4 dc4 pm4 an4 cd4 ct4), sl4⟩) (c4 : PySem.W.codeIn K cd4 "_law_draw" = true) (k4 : PySem.W.keepIn K (.ref f4) = true)
    (a5 : PySem.W.nsIn K mainGlobals "_law_price" = some (some (.ref f5))) (l5 : K.lookup f5 = some ⟨oc5, od5, .func (PySem.W.fnOf "_law_price" "_law_price" (defArgs s__law_price) (defBody s__law_price) (defScope s__law_price) .none kV5 dc5 pm5 an5 cd5 ct5), sl5⟩) (c5 : PySem.W.codeIn K cd5 "_law_price" = true) (k5 : PySem.W.keepIn K (.ref f5) = true)
    (a6 : PySem.W.nsIn K mainGlobals "_law_family" = some (some (.ref f6))) (l6 : K.lookup f6 = some ⟨oc6, od6, .func (PySem.W.fnOf "_law_family" "_law_family" (defArgs s__law_family) (defBody s__law_family) (defScope s__law_family) .none kV6 dc6 pm6 an6 cd6 ct6), sl6⟩) (c6 : PySem.W.codeIn K cd6 "_law_family" = true) (k6 : PySem.W.keepIn K (.ref f6) = true)
    (a7 : PySem.W.nsIn K mainGlobals "_law_size" = some (some (.ref f7))) (l7 : K.lookup f7 = some ⟨oc7, od7, .func (PySem.W.fnOf "_law_size" "_law_size" (defArgs s__law_size) (defBody s__law_size) (defScope s__law_size) .none kV7 dc7 pm7 an7 cd7 ct7), sl7⟩) (c7 : PySem.W.codeIn K cd7 "_law_size" = true) (k7 : PySem.W.keepIn K (.ref f7) = true)
    (a8 : PySem.W.nsIn K mainGlobals "_law_sizes" = some (some (.ref f8))) (l8 : K.lookup f8 = some ⟨oc8, od8, .func (PySem.W.fnOf "_law_sizes" "_law_sizes" (defArgs s__law_sizes) (defBody s__law_sizes) (defScope s__law_sizes) .none kV8 dc8 pm8 an8 cd8 ct8), sl8⟩) (c8 : PySem.W.codeIn K cd8 "_law_sizes" = true) (k8 : PySem.W.keepIn K (.ref f8) = true)
    (a9 : PySem.W.nsIn K mainGlobals "_law_priced" = some (some (.ref f9))) (l9 : K.lookup f9 = some ⟨oc9, od9, .func (PySem.W.fnOf "_law_priced" "_law_priced" (defArgs s__law_priced) (defBody s__law_priced) (defScope s__law_priced) .none kV9 dc9 pm9 an9 cd9 ct9), sl9⟩) (c9 : PySem.W.codeIn K cd9 "_law_priced" = true) (k9 : PySem.W.keepIn K (.ref f9) = true)
    (a10 : PySem.W.nsIn K mainGlobals "_law_tree" = some (some (.ref f10))) (l10 : K.lookup f10 = some ⟨oc10, od10, .func (PySem.W.fnOf "_law_tree" "_law_tree" (defArgs s__law_tree) (defBody s__law_tree) (defScope s__law_tree) .none kV10 dc10 pm10 an10 cd10 ct10), sl10⟩) (c10 : PySem.W.codeIn K cd10 "_law_tree" = true) (k10 : PySem.W.keepIn K (.ref f10) = true)
    (a11 : PySem.W.nsIn K mainGlobals "_law_ways" = some (some (.ref f11))) (l11 : K.lookup f11 = some ⟨oc11, od11, .func (PySem.W.fnOf "_law_ways" "_law_ways" (defArgs s__law_ways) (defBody s__law_ways) (defScope s__law_ways) .none kV11 dc11 pm11 an11 cd11 ct11), sl11⟩) (c11 : PySem.W.codeIn K cd11 "_law_ways" = true) (k11 : PySem.W.keepIn K (.ref f11) = true)
    (a12 : PySem.W.nsIn K mainGlobals "_law_counts" = some (some (.ref f12))) (l12 : K.lookup f12 = some ⟨oc12, od12, .func (PySem.W.fnOf "_law_counts" "_law_counts" (defArgs s__law_counts) (defBody s__law_counts) (defScope s__law_counts) .none kV12 dc12 pm12 an12 cd12 ct12), sl12⟩) (c12 : PySem.W.codeIn K cd12 "_law_counts" = true) (k12 : PySem.W.keepIn K (.ref f12) = true)
    (a13 : PySem.W.nsIn K mainGlobals "_law_reach" = some (some (.ref f13))) (l13 : K.lookup f13 = some ⟨oc13, od13, .func (PySem.W.fnOf "_law_reach" "_law_reach" (defArgs s__law_reach) (defBody s__law_reach) (defScope s__law_reach) .none kV13 dc13 pm13 an13 cd13 ct13), sl13⟩) (c13 : PySem.W.codeIn K cd13 "_law_reach" = true) (k13 : PySem.W.keepIn K (.ref f13) = true)
    (a14 : PySem.W.nsIn K mainGlobals "_law_fillings" = some (some (.ref f14))) (l14 : K.lookup f14 = some ⟨oc14, od14, .func (PySem.W.fnOf "_law_fillings" "_law_fillings" (defArgs s__law_fillings) (defBody s__law_fillings) (defScope s__law_fillings) .none kV14 dc14 pm14 an14 cd14 ct14), sl14⟩) (c14 : PySem.W.codeIn K cd14 "_law_fillings" = true) (k14 : PySem.W.keepIn K (.ref f14) = true)
    (a15 : PySem.W.nsIn K mainGlobals "_law_trees" = some (some (.ref f15))) (l15 : K.lookup f15 = some ⟨oc15, od15, .func (PySem.W.fnOf "_law_trees" "_law_trees" (defArgs s__law_trees) (defBody s__law_trees) (defScope s__law_trees) .none kV15 dc15 pm15 an15 cd15 ct15), sl15⟩) (c15 : PySem.W.codeIn K cd15 "_law_trees" = true) (k15 : PySem.W.keepIn K (.ref f15) = true)
    (a16 : PySem.W.nsIn K mainGlobals "_law_same" = some (some (.ref f16))) (l16 : K.lookup f16 = some ⟨oc16, od16, .func (PySem.W.fnOf "_law_same" "_law_same" (defArgs s__law_same) (defBody s__law_same) (defScope s__law_same) .none kV16 dc16 pm16 an16 cd16 ct16), sl16⟩) (c16 : PySem.W.codeIn K cd16 "_law_same" = true) (k16 : PySem.W.keepIn K (.ref f16) = true)
    (a17 : PySem.W.nsIn K mainGlobals "_law_large" = some (some (.ref f17))) (l17 : K.lookup f17 = some ⟨oc17, od17, .func (PySem.W.fnOf "_law_large" "_law_large" (defArgs s__law_large) (defBody s__law_large) (defScope s__law_large) .none kV17 dc17 pm17 an17 cd17 ct17), sl17⟩) (c17 : PySem.W.codeIn K cd17 "_law_large" = true) (k17 : PySem.W.keepIn K (.ref f17) = true)
    (a18 : PySem.W.nsIn K mainGlobals "_law_times" = some (some (.ref f18))) (l18 : K.lookup f18 = some ⟨oc18, od18, .func (PySem.W.fnOf "_law_times" "_law_times" (defArgs s__law_times) (defBody s__law_times) (defScope s__law_times) .none kV18 dc18 pm18 an18 cd18 ct18), sl18⟩) (c18 : PySem.W.codeIn K cd18 "_law_times" = true) (k18 : PySem.W.keepIn K (.ref f18) = true)
    (a19 : PySem.W.nsIn K mainGlobals "_law_least_filling" = some (some (.ref f19))) (l19 : K.lookup f19 = some ⟨oc19, od19, .func (PySem.W.fnOf "_law_least_filling" "_law_least_filling" (defArgs s__law_least_filling) (defBody s__law_least_filling) (defScope s__law_least_filling) .none kV19 dc19 pm19 an19 cd19 ct19), sl19⟩) (c19 : PySem.W.codeIn K cd19 "_law_least_filling" = true) (k19 : PySem.W.keepIn K (.ref f19) = true)
    (a20 : PySem.W.nsIn K mainGlobals "_law_case" = some (some (.ref f20))) (l20 : K.lookup f20 = some ⟨oc20, od20, .func (PySem.W.fnOf "_law_case" "_law_case" (defArgs s__law_case) (defBody s__law_case) (defScope s__law_case) .none kV20 dc20 pm20 an20 cd20 ct20), sl20⟩) (c20 : PySem.W.codeIn K cd20 "_law_case" = true) (k20 : PySem.W.keepIn K (.ref f20) = true)
    (a21 : PySem.W.nsIn K mainGlobals "law" = some (some (.ref f21))) (l21 : K.lookup f21 = some ⟨oc21, od21, .func (PySem.W.fnOf "law" "law" (defArgs s_law) (defBody s_law) (defScope s_law) .none kV21 dc21 pm21 an21 cd21 ct21), sl21⟩) (c21 : PySem.W.codeIn K cd21 "law" = true) (k21 : PySem.W.keepIn K (.ref f21) = true)
    (z1 : PySem.W.nsIn K mainGlobals "abs" = some none)
    (z2 : PySem.W.nsIn K mainGlobals "int" = some none)
    (z3 : PySem.W.nsIn K mainGlobals "len" = some none)
    (z4 : PySem.W.nsIn K mainGlobals "list" = some none)
    (z5 : PySem.W.nsIn K mainGlobals "max" = some none)
    (z6 : PySem.W.nsIn K mainGlobals "min" = some none)
    (z7 : PySem.W.nsIn K mainGlobals "range" = some none)
    (z8 : PySem.W.nsIn K mainGlobals "repr" = some none)
    (z9 : PySem.W.nsIn K mainGlobals "reversed" = some none)
    (z10 : PySem.W.nsIn K mainGlobals "sum" = some none)
    (z11 : PySem.W.nsIn K mainGlobals "tuple" = some none)
    : ∃ fd : FuncData, (∀ (s : Shared) (v : Value), BindsTo s fd ⟨[v], []⟩ [("_law_script", v)]) ∧ ∀ base : Heap, K.In base → base.Ns mainGlobals mg → GFn l.prog w K mg base CX0 6 fa fd ["_law_script"] spLaw := by
  have e := hfa.symm.trans (PySem.W.mg_of X Gh a21)
  cases e
  have F1 := fun_mk (st := s_least_filling) l1 c1 k1
  have F2 := fun_mk (st := s_least_by_size) l2 c2 k2
  have F3 := fun_mk (st := s__law_tape) l3 c3 k3
  have F4 := fun_mk (st := s__law_draw) l4 c4 k4
  have F5 := fun_mk (st := s__law_price) l5 c5 k5
  have F6 := fun_mk (st := s__law_family) l6 c6 k6
  have F7 := fun_mk (st := s__law_size) l7 c7 k7
  have F8 := fun_mk (st := s__law_sizes) l8 c8 k8
  have F9 := fun_mk (st := s__law_priced) l9 c9 k9
  have F10 := fun_mk (st := s__law_tree) l10 c10 k10
  have F11 := fun_mk (st := s__law_ways) l11 c11 k11
  have F12 := fun_mk (st := s__law_counts) l12 c12 k12
  have F13 := fun_mk (st := s__law_reach) l13 c13 k13
  have F14 := fun_mk (st := s__law_fillings) l14 c14 k14
  have F15 := fun_mk (st := s__law_trees) l15 c15 k15
  have F16 := fun_mk (st := s__law_same) l16 c16 k16
  have F17 := fun_mk (st := s__law_large) l17 c17 k17
  have F18 := fun_mk (st := s__law_times) l18 c18 k18
  have F19 := fun_mk (st := s__law_least_filling) l19 c19 k19
  have F20 := fun_mk (st := s__law_case) l20 c20 k20
  have F21 := fun_mk (st := s_law) l21 c21 k21
  have b1 := F1.binds (ps := ["sizes", "slots", "parts"]) fun _ _ _ _ _ _ us hl => match us, hl with | [_, _, _], _ => rfl
  have b2 := F2.binds (ps := ["family", "state", "most"]) fun _ _ _ _ _ _ us hl => match us, hl with | [_, _, _], _ => rfl
  have b3 := F3.binds (ps := ["_law_script"]) fun _ _ _ _ _ _ us hl => match us, hl with | [_], _ => rfl
  have b4 := F4.binds (ps := ["_law_tape_here", "_law_menu"]) fun _ _ _ _ _ _ us hl => match us, hl with | [_, _], _ => rfl
  have b5 := F5.binds (ps := ["_law_tape_here", "_law_mode", "_law_low"]) fun _ _ _ _ _ _ us hl => match us, hl with | [_, _, _], _ => rfl
  have b6 := F6.binds (ps := ["_law_tape_here", "_law_states", "_law_variants", "_law_low"]) fun _ _ _ _ _ _ us hl => match us, hl with | [_, _, _, _], _ => rfl
  have b7 := F7.binds (ps := ["_law_variant", "_law_sizes_here"]) fun _ _ _ _ _ _ us hl => match us, hl with | [_, _], _ => rfl
  have b8 := F8.binds (ps := ["_law_family_here"]) fun _ _ _ _ _ _ us hl => match us, hl with | [_], _ => rfl
  have b9 := F9.binds (ps := ["_law_family_here", "_law_tree_here"]) fun _ _ _ _ _ _ us hl => match us, hl with | [_, _], _ => rfl
  have b10 := F10.binds (ps := ["_law_tape_here", "_law_family_here", "_law_sizes_here", "_law_state", "_law_room"]) fun _ _ _ _ _ _ us hl => match us, hl with | [_, _, _, _, _], _ => rfl
  have b11 := F11.binds (ps := ["_law_counts_here", "_law_slots", "_law_parts"]) fun _ _ _ _ _ _ us hl => match us, hl with | [_, _, _], _ => rfl
  have b12 := F12.binds (ps := ["_law_family_here", "_law_top"]) fun _ _ _ _ _ _ us hl => match us, hl with | [_, _], _ => rfl
  have b13 := F13.binds (ps := ["_law_counts_here", "_law_limit"]) fun _ _ _ _ _ _ us hl => match us, hl with | [_, _], _ => rfl
  have b14 := F14.binds (ps := ["_law_rows", "_law_slots", "_law_parts"]) fun _ _ _ _ _ _ us hl => match us, hl with | [_, _, _], _ => rfl
  have b15 := F15.binds (ps := ["_law_family_here", "_law_top"]) fun _ _ _ _ _ _ us hl => match us, hl with | [_, _], _ => rfl
  have b16 := F16.binds (ps := ["_law_actual", "_law_due"]) fun _ _ _ _ _ _ us hl => match us, hl with | [_, _], _ => rfl
  have b17 := F17.binds (ps := ["_law_tape_here", "_law_low"]) fun _ _ _ _ _ _ us hl => match us, hl with | [_, _], _ => rfl
  have b18 := F18.binds (ps := ["_law_family_here", "_law_factor"]) fun _ _ _ _ _ _ us hl => match us, hl with | [_, _], _ => rfl
  have b19 := F19.binds (ps := ["_law_rows", "_law_slots", "_law_parts"]) fun _ _ _ _ _ _ us hl => match us, hl with | [_, _, _], _ => rfl
  have b20 := F20.binds (ps := ["_law_tape_here", "_law_family_here"]) fun _ _ _ _ _ _ us hl => match us, hl with | [_, _], _ => rfl
  have b21 := F21.binds (ps := ["_law_script"]) fun _ _ _ _ _ _ us hl => match us, hl with | [_], _ => rfl
  have T : Tx K mg ⟨_, _, _, _, _, _, _, _, _, _, _, _, _, _, _, _, _, _, _, _, _, _, _, _, _, _, _, _, _, _, _, _, _, _, _, _, _, _, _, _, _, _⟩ := ⟨⟨F1, PySem.W.mg_of X Gh a1, b1⟩, ⟨F2, PySem.W.mg_of X Gh a2, b2⟩, ⟨F3, PySem.W.mg_of X Gh a3, b3⟩, ⟨F4, PySem.W.mg_of X Gh a4, b4⟩, ⟨F5, PySem.W.mg_of X Gh a5, b5⟩, ⟨F6, PySem.W.mg_of X Gh a6, b6⟩, ⟨F7, PySem.W.mg_of X Gh a7, b7⟩, ⟨F8, PySem.W.mg_of X Gh a8, b8⟩, ⟨F9, PySem.W.mg_of X Gh a9, b9⟩, ⟨F10, PySem.W.mg_of X Gh a10, b10⟩, ⟨F11, PySem.W.mg_of X Gh a11, b11⟩, ⟨F12, PySem.W.mg_of X Gh a12, b12⟩, ⟨F13, PySem.W.mg_of X Gh a13, b13⟩, ⟨F14, PySem.W.mg_of X Gh a14, b14⟩, ⟨F15, PySem.W.mg_of X Gh a15, b15⟩, ⟨F16, PySem.W.mg_of X Gh a16, b16⟩, ⟨F17, PySem.W.mg_of X Gh a17, b17⟩, ⟨F18, PySem.W.mg_of X Gh a18, b18⟩, ⟨F19, PySem.W.mg_of X Gh a19, b19⟩, ⟨F20, PySem.W.mg_of X Gh a20, b20⟩, ⟨F21, PySem.W.mg_of X Gh a21, b21⟩, PySem.W.mg_none_of X Gh z1, PySem.W.mg_none_of X Gh z2, PySem.W.mg_none_of X Gh z3, PySem.W.mg_none_of X Gh z4, PySem.W.mg_none_of X Gh z5, PySem.W.mg_none_of X Gh z6, PySem.W.mg_none_of X Gh z7, PySem.W.mg_none_of X Gh z8, PySem.W.mg_none_of X Gh z9, PySem.W.mg_none_of X Gh z10, PySem.W.mg_none_of X Gh z11⟩
  exact ⟨PySem.W.fnOf "law" "law" (defArgs s_law) (defBody s_law) (defScope s_law) .none kV21 dc21 pm21 an21 cd21 ct21, fun s v => .of_eq rfl, fun base _ _ => walk_all T⟩
end W
end
open PySem PySem.W PyProof.Rows
set_option maxHeartbeats 0 in
theorem PySem.Challenge.cw_slotwise_k68_least_by_size_holds : PySem.Challenge.rw_slotwise_k68_least_by_size.Holds := by
  w_on; o_law; k_head; (case hw => w_witness2)
  k_fill
  refine G.walk_g (l := PySem.Challenge.rw_slotwise_k68_least_by_size) (n := 63) (k := 6) (x := "_law_script") (R := W.spLaw) rfl (by decide) rfl ⟨rfl, by decide, by decide⟩ (fun w h Y => PySem.W.kIn_of Y) ?F (fun ns hl hb => ⟨ns, rfl, rfl, fun _ => rfl⟩)
  case F =>
    intro w mg fa h KX G hmg
    refine' W.all_mk KX G hmg ?a1 ?l1 ?c1 ?k1 ?a2 ?l2 ?c2 ?k2 ?a3 ?l3 ?c3 ?k3 ?a4 ?l4 ?c4 ?k4 ?a5 ?l5 ?c5 ?k5 ?a6 ?l6 ?c6 ?k6 ?a7 ?l7 ?c7 ?k7 ?a8 ?l8 ?c8 ?k8 ?a9 ?l9 ?c9 ?k9 ?a10 ?l10 ?c10 ?k10 ?a11 ?l11 ?c11 ?k11 ?a12 ?l12 ?c12 ?k12 ?a13 ?l13 ?c13 ?k13 ?a14 ?l14 ?c14 ?k14 ?a15 ?l15 ?c15 ?k15 ?a16 ?l16 ?c16 ?k16 ?a17 ?l17 ?c17 ?k17 ?a18 ?l18 ?c18 ?k18 ?a19 ?l19 ?c19 ?k19 ?a20 ?l20 ?c20 ?k20 ?a21 ?l21 ?c21 ?k21 ?z1 ?z2 ?z3 ?z4 ?z5 ?z6 ?z7 ?z8 ?z9 ?z10 ?z11
    (case a1 => k_is)
    (case l1 => k_is)
    (case c1 => k_is)
    (case k1 => k_is)
    (case a2 => k_is)
    (case l2 => k_is)
    (case c2 => k_is)
    (case k2 => k_is)
    (case a3 => k_is)
    (case l3 => k_is)
    (case c3 => k_is)
    (case k3 => k_is)
    (case a4 => k_is)
    (case l4 => k_is)
    (case c4 => k_is)
    (case k4 => k_is)
    (case a5 => k_is)
    (case l5 => k_is)
    (case c5 => k_is)
    (case k5 => k_is)
    (case a6 => k_is)
    (case l6 => k_is)
    (case c6 => k_is)
    (case k6 => k_is)
    (case a7 => k_is)
    (case l7 => k_is)
    (case c7 => k_is)
    (case k7 => k_is)
    (case a8 => k_is)
    (case l8 => k_is)
    (case c8 => k_is)
    (case k8 => k_is)
    (case a9 => k_is)
    (case l9 => k_is)
    (case c9 => k_is)
    (case k9 => k_is)
    (case a10 => k_is)
    (case l10 => k_is)
    (case c10 => k_is)
    (case k10 => k_is)
    (case a11 => k_is)
    (case l11 => k_is)
    (case c11 => k_is)
    (case k11 => k_is)
    (case a12 => k_is)
    (case l12 => k_is)
    (case c12 => k_is)
    (case k12 => k_is)
    (case a13 => k_is)
    (case l13 => k_is)
    (case c13 => k_is)
    (case k13 => k_is)
    (case a14 => k_is)
    (case l14 => k_is)
    (case c14 => k_is)
    (case k14 => k_is)
    (case a15 => k_is)
    (case l15 => k_is)
    (case c15 => k_is)
    (case k15 => k_is)
    (case a16 => k_is)
    (case l16 => k_is)
    (case c16 => k_is)
    (case k16 => k_is)
    (case a17 => k_is)
    (case l17 => k_is)
    (case c17 => k_is)
    (case k17 => k_is)
    (case a18 => k_is)
    (case l18 => k_is)
    (case c18 => k_is)
    (case k18 => k_is)
    (case a19 => k_is)
    (case l19 => k_is)
    (case c19 => k_is)
    (case k19 => k_is)
    (case a20 => k_is)
    (case l20 => k_is)
    (case c20 => k_is)
    (case k20 => k_is)
    (case a21 => k_is)
    (case l21 => k_is)
    (case c21 => k_is)
    (case k21 => k_is)
    (case z1 => k_is)
    (case z2 => k_is)
    (case z3 => k_is)
    (case z4 => k_is)
    (case z5 => k_is)
    (case z6 => k_is)
    (case z7 => k_is)
    (case z8 => k_is)
    (case z9 => k_is)
    (case z10 => k_is)
    (case z11 => k_is)
