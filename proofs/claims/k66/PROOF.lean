import PyProof.Rows.All
import Wide.All
import OpenK.AllK
import Wide.FinOn
import KE.KStateDown
import Lean
import HandS.ForMost
import HandS.More
import HandS.Defaults
import HandS.Wide
import HandS.Deep
import HandS.Style
import HandS.TupAny
import HandS.TupLe
import HandS.SortInts
import HandS.SortRule
import HandS.IsInst
import HandS.Flow
import KE.SortData
import KE.LtData
import HandS.SetFor
import PySem.Challenge.RW_daysround_k66_whole_the_greatest_period
import HandS.Head0
import HandS.Head1
import HandS.Head2
import HandS.HeadEnd
import HandS.HeadHook1
import HandS.HeadHook2
set_option Elab.async false
set_option linter.all false
set_option maxRecDepth 100000
set_option maxHeartbeats 0
/-! V3: value semantics over HandS. A def's slots hold ownership trees; no address is seen in a def's proof. -/
namespace V3
open PySem PySem.Spec PyProof.Rows L2

abbrev Fg := PySem.W.Frag

/-! ### the heap's order -/
theorem same_rd {H H' : Hp} {a : Addr} {u : HO} (e : Same H H') (h : Rd H a u) : Rd H' a u := by
  rcases h with h | ⟨o, h⟩
  · exact .inl (e a _ h)
  · exact .inr ⟨o, e a _ h⟩
theorem same_l {K : Fg} {H H' : Hp} {a : Addr} {xs : List V} (e : Same H H') (h : SqL K H a xs) : SqL K H' a xs := e.seq h
theorem same_t {K : Fg} {H H' : Hp} {a : Addr} {xs : List V} (e : Same H H') (h : SqT K H a xs) : SqT K H' a xs := by
  rcases h with h | h
  · exact .inl (same_rd e h)
  · exact .inr h
theorem same_new {H : Hp} {p : Addr} {o : HO} (h : H p = none) : Same H (upd H p o) := fun b x e => by
  rw [upd_ne (ne_of_none e h)]
  exact e
theorem same_mut {H H' : Hp} {p : Addr} {o : HO} (e : Same H H') (h : H p = none) : Same H (upd H' p o) := fun b x ea => by
  rw [upd_ne (ne_of_none ea h)]
  exact e b x ea
theorem same_upd2 {H H' : Hp} {p : Addr} {o : HO} (e : Same H H') : Same (upd H p o) (upd H' p o) := fun b x ea => by
  by_cases h : b = p
  · subst h; rw [upd_same] at ea ⊢; exact ea
  · rw [upd_ne h] at ea ⊢; exact e b x ea

/-! ### data in a heap: lists and tuples that are tracked -/
mutual
inductive Rp (K : Fg) (H : Hp) : V → PyData → Prop
  | non : Rp K H .non .none
  | bl (b : Bool) : Rp K H (.bl b) (.bool b)
  | int (i : Int) : Rp K H (.int i) (.int i)
  | str (x : Str) : Rp K H (.str x) (.str x)
  | lst {a : Addr} {xs : List V} {ds : List PyData} : H a = some (.lst xs) → Rps K H xs ds → Rp K H (.ref a) (.list ds)
  | tup {a : Addr} {xs : List V} {ds : List PyData} : H a = some (.tup xs) → Rps K H xs ds → Rp K H (.ref a) (.tuple ds)
inductive Rps (K : Fg) (H : Hp) : List V → List PyData → Prop
  | nil : Rps K H [] []
  | cons {v : V} {vs : List V} {d : PyData} {ds : List PyData} : Rp K H v d → Rps K H vs ds → Rps K H (v :: vs) (d :: ds)
end
mutual
theorem Rp.dp {K : Fg} {H : Hp} : ∀ {v : V} {d : PyData}, Rp K H v d → Dp K H v d
  | _, _, .non => .non
  | _, _, .bl b => .bl b
  | _, _, .int i => .int i
  | _, _, .str x => .str x
  | _, _, .lst h a => .lst (.of h) (Rps.dp a)
  | _, _, .tup h a => .tup (.of h) (Rps.dp a)
theorem Rps.dp {K : Fg} {H : Hp} : ∀ {vs : List V} {ds : List PyData}, Rps K H vs ds → DpAll K H vs ds
  | _, _, .nil => .nil
  | _, _, .cons a b => .cons (Rp.dp a) (Rps.dp b)
end
mutual
theorem dp_mono {K : Fg} {H H' : Hp} (e : Same H H') : ∀ {v : V} {d : PyData}, Rp K H v d → Rp K H' v d
  | _, _, .non => .non
  | _, _, .bl b => .bl b
  | _, _, .int i => .int i
  | _, _, .str x => .str x
  | _, _, .lst h a => .lst (e _ _ h) (dps_mono e a)
  | _, _, .tup h a => .tup (e _ _ h) (dps_mono e a)
theorem dps_mono {K : Fg} {H H' : Hp} (e : Same H H') : ∀ {vs : List V} {ds : List PyData}, Rps K H vs ds → Rps K H' vs ds
  | _, _, .nil => .nil
  | _, _, .cons h a => .cons (dp_mono e h) (dps_mono e a)
end
theorem dps_len {K : Fg} {H : Hp} : ∀ {vs : List V} {ds : List PyData}, Rps K H vs ds → vs.length = ds.length
  | _, _, .nil => rfl
  | _, _, .cons _ a => by simp [dps_len a]
theorem dps_get {K : Fg} {H : Hp} : ∀ {vs : List V} {ds : List PyData} {i : Nat} {d : PyData}, Rps K H vs ds → ds[i]? = some d → ∃ v, vs[i]? = some v ∧ Rp K H v d
  | _, _, _, _, .nil, h => by simp at h
  | _, _, 0, _, .cons a _, h => by simp at h; subst h; exact ⟨_, rfl, a⟩
  | _, _, i + 1, _, .cons _ b, h => by
    obtain ⟨v, h1, h2⟩ := dps_get (i := i) b (by simpa using h)
    exact ⟨v, by simpa using h1, h2⟩
theorem dps_get' {K : Fg} {H : Hp} : ∀ {vs : List V} {ds : List PyData} {i : Nat} {v : V}, Rps K H vs ds → vs[i]? = some v → ∃ d, ds[i]? = some d ∧ Rp K H v d
  | _, _, _, _, .nil, h => by simp at h
  | _, _, 0, _, .cons a _, h => by simp at h; subst h; exact ⟨_, rfl, a⟩
  | _, _, i + 1, _, .cons _ b, h => by
    obtain ⟨v, h1, h2⟩ := dps_get' (i := i) b (by simpa using h)
    exact ⟨v, by simpa using h1, h2⟩
theorem dps_app {K : Fg} {H : Hp} : ∀ {vs ws : List V} {ds es : List PyData}, Rps K H vs ds → Rps K H ws es → Rps K H (vs ++ ws) (ds ++ es)
  | _, _, _, _, .nil, b => b
  | _, _, _, _, .cons a c, b => .cons a (dps_app c b)
theorem dps_take {K : Fg} {H : Hp} : ∀ {vs : List V} {ds : List PyData} (n : Nat), Rps K H vs ds → Rps K H (vs.take n) (ds.take n)
  | _, _, 0, _ => by simp; exact .nil
  | _, _, n + 1, .nil => by simp; exact .nil
  | _, _, n + 1, .cons a b => .cons a (dps_take n b)
theorem dps_drop {K : Fg} {H : Hp} : ∀ {vs : List V} {ds : List PyData} (n : Nat), Rps K H vs ds → Rps K H (vs.drop n) (ds.drop n)
  | _, _, 0, h => h
  | _, _, n + 1, .nil => by simp; exact .nil
  | _, _, n + 1, .cons a b => dps_drop n b
theorem dps_set {K : Fg} {H : Hp} : ∀ {vs : List V} {ds : List PyData} (n : Nat) {v : V} {d : PyData}, Rps K H vs ds → Rp K H v d → Rps K H (vs.set n v) (ds.set n d)
  | _, _, _, _, _, .nil, _ => .nil
  | _, _, 0, _, _, .cons a b, h => .cons h b
  | _, _, n + 1, _, _, .cons a b, h => .cons a (dps_set n b h)
theorem dps_rev {K : Fg} {H : Hp} : ∀ {vs : List V} {ds : List PyData}, Rps K H vs ds → Rps K H vs.reverse ds.reverse
  | _, _, .nil => .nil
  | _, _, .cons a b => by
    simp only [List.reverse_cons]
    exact dps_app (dps_rev b) (.cons a .nil)
theorem dps_rep {K : Fg} {H : Hp} : ∀ {vs : List V} {ds : List PyData} (n : Nat), Rps K H vs ds → Rps K H (List.replicate n vs).flatten (List.replicate n ds).flatten
  | _, _, 0, _ => by simp; exact .nil
  | _, _, n + 1, h => by
    rw [List.replicate_succ, List.replicate_succ, List.flatten_cons, List.flatten_cons]
    exact dps_app h (dps_rep n h)
theorem dps_ints {K : Fg} {H : Hp} : ∀ (ns : List Int), Rps K H (ns.map V.int) (ns.map PyData.int)
  | [] => .nil
  | n :: ns => .cons (.int n) (dps_ints ns)
theorem dps_ints_inv {K : Fg} {H : Hp} : ∀ {ns : List Int} {vs : List V}, Rps K H vs (ns.map PyData.int) → vs = ns.map V.int
  | [], _, h => by cases h; rfl
  | n :: ns, _, h => by
    cases h with
    | cons a b => cases a; rw [dps_ints_inv b]; rfl
theorem dps_bls_inv {K : Fg} {H : Hp} : ∀ {ns : List Bool} {vs : List V}, Rps K H vs (ns.map PyData.bool) → vs = ns.map V.bl
  | [], _, h => by cases h; rfl
  | n :: ns, _, h => by
    cases h with
    | cons a b => cases a; rw [dps_bls_inv b]; rfl
/-- flat data stand in any heap -/
def flatD : PyData → Bool
  | .none | .bool _ | .int _ | .str _ => true
  | _ => false
theorem dp_flat {K : Fg} {H H' : Hp} {v : V} {d : PyData} (h : Rp K H v d) (f : flatD d = true) : Rp K H' v d := by
  cases h with
  | non => exact .non
  | bl b => exact .bl b
  | int i => exact .int i
  | str x => exact .str x
  | lst _ _ => cases f
  | tup _ _ => cases f
theorem dps_flat {K : Fg} {H H' : Hp} : ∀ {vs : List V} {ds : List PyData}, Rps K H vs ds → ds.all flatD = true → Rps K H' vs ds
  | _, _, .nil, _ => .nil
  | _, _, .cons a b, f => by
    simp only [List.all_cons, Bool.and_eq_true] at f
    exact .cons (dp_flat a f.1) (dps_flat b f.2)

/-! ### ownership trees -/
inductive OT where
  /-- data anchored in the ghost heap: shared, never written -/
  | leaf (d : PyData)
  /-- a list of one's own, a tuple of one's own -/
  | lst (os : List OT)
  | tup (os : List OT)
  /-- a dict of one's own, keys ints or texts; keys tuples -/
  | dic (kvs : List (Key × PyData))
  | dct (kvs : List (List Key × PyData))
  /-- the script: read alone -/
  | scr (ns : List Int)
  /-- a value that is not looked into -/
  | raw (v : V)
mutual
def OT.data : OT → PyData
  | .leaf d => d
  | .lst os => .list (OT.datas os)
  | .tup os => .tuple (OT.datas os)
  | .dic _ => .none
  | .dct _ => .none
  | .scr _ => .none
  | .raw _ => .none
def OT.datas : List OT → List PyData
  | [] => []
  | o :: os => o.data :: OT.datas os
end
mutual
/-- data without dicts and raw values -/
def OT.plain : OT → Bool
  | .leaf _ => true
  | .lst os => OT.plains os
  | .tup os => OT.plains os
  | .dic _ => false
  | .dct _ => false
  | .scr _ => false
  | .raw _ => false
def OT.plains : List OT → Bool
  | [] => true
  | o :: os => o.plain && OT.plains os
end
def lfs (ds : List PyData) : List OT := ds.map OT.leaf
theorem datas_lfs : ∀ ds : List PyData, OT.datas (lfs ds) = ds
  | [] => rfl
  | d :: ds => by show d :: OT.datas (lfs ds) = d :: ds; rw [datas_lfs ds]
theorem plains_lfs : ∀ ds : List PyData, OT.plains (lfs ds) = true
  | [] => rfl
  | d :: ds => by show (true && OT.plains (lfs ds)) = true; rw [plains_lfs ds]; rfl
theorem datas_len : ∀ os : List OT, (OT.datas os).length = os.length
  | [] => rfl
  | o :: os => by show (OT.datas os).length + 1 = os.length + 1; rw [datas_len os]

/-- keys with values, dict of one's own -/
inductive KvAll {κ : Type} (K : Fg) (G : Hp) : List (κ × V) → List (κ × PyData) → Prop
  | nil : KvAll K G [] []
  | cons {k : κ} {v : V} {d : PyData} {vs : List (κ × V)} {ds : List (κ × PyData)} : Rp K G v d → KvAll K G vs ds → KvAll K G ((k, v) :: vs) ((k, d) :: ds)
theorem kv_mono {κ : Type} {K : Fg} {H H' : Hp} (e : Same H H') : ∀ {vs : List (κ × V)} {ds : List (κ × PyData)}, KvAll K H vs ds → KvAll K H' vs ds
  | _, _, .nil => .nil
  | _, _, .cons h a => .cons (dp_mono e h) (kv_mono e a)

mutual
inductive RepO (K : Fg) (G H : Hp) : OT → V → List Addr → Prop
  | leaf {d : PyData} {v : V} : Rp K G v d → RepO K G H (.leaf d) v []
  | lst {os : List OT} {p : Addr} {vs : List V} {A : List Addr} : H p = some (.lst vs) → G p = none → RepOs K G H os vs A → p ∉ A → RepO K G H (.lst os) (.ref p) (p :: A)
  | tup {os : List OT} {p : Addr} {vs : List V} {A : List Addr} : H p = some (.tup vs) → G p = none → RepOs K G H os vs A → p ∉ A → RepO K G H (.tup os) (.ref p) (p :: A)
  | dic {es : List (Key × PyData)} {kvs : List (Key × V)} {p : Addr} : H p = some (.dK kvs) → G p = none → KvAll K G kvs es → RepO K G H (.dic es) (.ref p) [p]
  | dct {es : List (List Key × PyData)} {kvs : List (List Key × V)} {p : Addr} : H p = some (.dT kvs) → G p = none → KvAll K G kvs es → RepO K G H (.dct es) (.ref p) [p]
  | scr {ns : List Int} {a : Addr} : SqL K G a (ns.map V.int) → RepO K G H (.scr ns) (.ref a) []
  | raw {v : V} : RepO K G H (.raw v) v []
inductive RepOs (K : Fg) (G H : Hp) : List OT → List V → List Addr → Prop
  | nil : RepOs K G H [] [] []
  | cons {o : OT} {os : List OT} {v : V} {vs : List V} {A B : List Addr} : RepO K G H o v A → RepOs K G H os vs B → (∀ a ∈ A, a ∉ B) → RepOs K G H (o :: os) (v :: vs) (A ++ B)
end
mutual
/-- what is owned stands in H, is free in G -/
theorem RepO.own {K : Fg} {G H : Hp} : ∀ {o : OT} {v : V} {A : List Addr}, RepO K G H o v A → ∀ a ∈ A, H a ≠ none ∧ G a = none
  | _, _, _, .leaf _ => fun a h => by cases h
  | _, _, _, .lst h g r _ => fun a ha => by
    rcases List.mem_cons.mp ha with rfl | ha
    · exact ⟨by rw [h]; simp, g⟩
    · exact r.own a ha
  | _, _, _, .tup h g r _ => fun a ha => by
    rcases List.mem_cons.mp ha with rfl | ha
    · exact ⟨by rw [h]; simp, g⟩
    · exact r.own a ha
  | _, _, _, .dic h g _ => fun a ha => by
    obtain rfl := List.mem_singleton.mp ha
    exact ⟨by rw [h]; simp, g⟩
  | _, _, _, .dct h g _ => fun a ha => by
    obtain rfl := List.mem_singleton.mp ha
    exact ⟨by rw [h]; simp, g⟩
  | _, _, _, .scr _ => fun a h => by cases h
  | _, _, _, .raw => fun a h => by cases h
theorem RepOs.own {K : Fg} {G H : Hp} : ∀ {os : List OT} {vs : List V} {A : List Addr}, RepOs K G H os vs A → ∀ a ∈ A, H a ≠ none ∧ G a = none
  | _, _, _, .nil => fun a h => by cases h
  | _, _, _, .cons r rs _ => fun a ha => by
    rcases List.mem_append.mp ha with ha | ha
    · exact r.own a ha
    · exact rs.own a ha
end
mutual
/-- carried to other heaps: what is owned is as it was -/
theorem RepO.to {K : Fg} {G G' H H' : Hp} (e : Same G G') : ∀ {o : OT} {v : V} {A : List Addr}, RepO K G H o v A → (∀ a ∈ A, H' a = H a ∧ G' a = none) → RepO K G' H' o v A
  | _, _, _, .leaf h, _ => .leaf (dp_mono e h)
  | _, _, _, .lst h g r n, k => by
    have k0 := k _ (List.mem_cons_self)
    exact .lst (k0.1.trans h) k0.2 (RepOs.to e r fun a ha => k a (List.mem_cons_of_mem _ ha)) n
  | _, _, _, .tup h g r n, k => by
    have k0 := k _ (List.mem_cons_self)
    exact .tup (k0.1.trans h) k0.2 (RepOs.to e r fun a ha => k a (List.mem_cons_of_mem _ ha)) n
  | _, _, _, .dic h g r, k => by
    have k0 := k _ (List.mem_singleton.mpr rfl)
    exact .dic (k0.1.trans h) k0.2 (kv_mono e r)
  | _, _, _, .dct h g r, k => by
    have k0 := k _ (List.mem_singleton.mpr rfl)
    exact .dct (k0.1.trans h) k0.2 (kv_mono e r)
  | _, _, _, .scr h, _ => .scr (same_l e h)
  | _, _, _, .raw, _ => .raw
theorem RepOs.to {K : Fg} {G G' H H' : Hp} (e : Same G G') : ∀ {os : List OT} {vs : List V} {A : List Addr}, RepOs K G H os vs A → (∀ a ∈ A, H' a = H a ∧ G' a = none) → RepOs K G' H' os vs A
  | _, _, _, .nil, _ => .nil
  | _, _, _, .cons r rs d, k => .cons (RepO.to e r fun a ha => k a (List.mem_append_left _ ha)) (RepOs.to e rs fun a ha => k a (List.mem_append_right _ ha)) d
end
mutual
/-- seen in H, a tree is its data -/
theorem RepO.view {K : Fg} {G H : Hp} (e : Same G H) : ∀ {o : OT} {v : V} {A : List Addr}, RepO K G H o v A → o.plain = true → Rp K H v o.data
  | _, _, _, .leaf h, _ => dp_mono e h
  | _, _, _, .lst h _ r _, p => .lst h (RepOs.view e r p)
  | _, _, _, .tup h _ r _, p => .tup h (RepOs.view e r p)
  | _, _, _, .dic _ _ _, p => by cases p
  | _, _, _, .dct _ _ _, p => by cases p
  | _, _, _, .scr _, p => by cases p
  | _, _, _, .raw, p => by cases p
theorem RepOs.view {K : Fg} {G H : Hp} (e : Same G H) : ∀ {os : List OT} {vs : List V} {A : List Addr}, RepOs K G H os vs A → OT.plains os = true → Rps K H vs (OT.datas os)
  | _, _, _, .nil, _ => .nil
  | _, _, _, .cons r rs _, p => by
    have p' := Bool.and_eq_true_iff.mp (show (_ && OT.plains _) = true from p)
    exact .cons (RepO.view e r p'.1) (RepOs.view e rs p'.2)
end
mutual
/-- frozen: anchored in a greater ghost heap -/
theorem RepO.anchor {K : Fg} {G G' H : Hp} (e : Same G G') : ∀ {o : OT} {v : V} {A : List Addr}, RepO K G H o v A → (∀ a ∈ A, G' a = H a) → o.plain = true → Rp K G' v o.data
  | _, _, _, .leaf h, _, _ => dp_mono e h
  | _, _, _, .lst h _ r _, k, p => .lst ((k _ List.mem_cons_self).trans h) (RepOs.anchor e r (fun a ha => k a (List.mem_cons_of_mem _ ha)) p)
  | _, _, _, .tup h _ r _, k, p => .tup ((k _ List.mem_cons_self).trans h) (RepOs.anchor e r (fun a ha => k a (List.mem_cons_of_mem _ ha)) p)
  | _, _, _, .dic _ _ _, _, p => by cases p
  | _, _, _, .dct _ _ _, _, p => by cases p
  | _, _, _, .scr _, _, p => by cases p
  | _, _, _, .raw, _, p => by cases p
theorem RepOs.anchor {K : Fg} {G G' H : Hp} (e : Same G G') : ∀ {os : List OT} {vs : List V} {A : List Addr}, RepOs K G H os vs A → (∀ a ∈ A, G' a = H a) → OT.plains os = true → Rps K G' vs (OT.datas os)
  | _, _, _, .nil, _, _ => .nil
  | _, _, _, .cons r rs _, k, p => by
    have p' := Bool.and_eq_true_iff.mp (show (_ && OT.plains _) = true from p)
    exact .cons (RepO.anchor e r (fun a ha => k a (List.mem_append_left _ ha)) p'.1) (RepOs.anchor e rs (fun a ha => k a (List.mem_append_right _ ha)) p'.2)
end
theorem RepOs.len {K : Fg} {G H : Hp} : ∀ {os : List OT} {vs : List V} {A : List Addr}, RepOs K G H os vs A → os.length = vs.length
  | _, _, _, .nil => rfl
  | _, _, _, .cons _ rs _ => by simp [rs.len]
theorem RepOs.lfs_inv {K : Fg} {G H : Hp} : ∀ {ds : List PyData} {vs : List V} {A : List Addr}, RepOs K G H (lfs ds) vs A → Rps K G vs ds ∧ A = []
  | [], _, _, h => by cases h; exact ⟨.nil, rfl⟩
  | d :: ds, _, _, h => by
    cases h with
    | cons a b c =>
      cases a with
      | leaf a =>
        obtain ⟨x, y⟩ := RepOs.lfs_inv b
        exact ⟨.cons a x, by rw [y]; rfl⟩
theorem RepOs.of_dps {K : Fg} {G H : Hp} : ∀ {ds : List PyData} {vs : List V}, Rps K G vs ds → RepOs K G H (lfs ds) vs []
  | _, _, .nil => .nil
  | _, _, .cons a b => RepOs.cons (A := []) (B := []) (.leaf a) (RepOs.of_dps b) (fun _ h => nomatch h)
/-- the ghost heap with what is owned added -/
def addG (G H : Hp) (A : List Addr) : Hp := fun a => if a ∈ A then H a else G a
theorem addG_same {G H : Hp} {A : List Addr} (e : Same G H) : Same G (addG G H A) := fun a o h => by
  unfold addG
  by_cases ha : a ∈ A
  · rw [if_pos ha]; exact e a o h
  · rw [if_neg ha]; exact h
theorem addG_le {G H : Hp} {A : List Addr} (e : Same G H) : Same (addG G H A) H := fun a o h => by
  unfold addG at h
  by_cases ha : a ∈ A
  · rw [if_pos ha] at h; exact h
  · rw [if_neg ha] at h; exact e a o h
theorem addG_in {G H : Hp} {A : List Addr} {a : Addr} (h : a ∈ A) : addG G H A a = H a := if_pos h
theorem addG_out {G H : Hp} {A : List Addr} {a : Addr} (h : a ∉ A) : addG G H A a = G a := if_neg h

/-! ### slots -/
abbrev Env' := List (Option OT)
inductive SatL (K : Fg) (G H : Hp) : List (Option V) → Env' → List Addr → Prop
  | nil : SatL K G H [] [] []
  | skip {x : Option V} {σ : List (Option V)} {Γ : Env'} {A : List Addr} : SatL K G H σ Γ A → SatL K G H (x :: σ) (none :: Γ) A
  | one {o : OT} {v : V} {σ : List (Option V)} {Γ : Env'} {A B : List Addr} : RepO K G H o v A → SatL K G H σ Γ B → (∀ a ∈ A, a ∉ B) → SatL K G H (some v :: σ) (some o :: Γ) (A ++ B)
theorem SatL.len {K : Fg} {G H : Hp} : ∀ {σ : List (Option V)} {Γ : Env'} {A : List Addr}, SatL K G H σ Γ A → σ.length = Γ.length
  | _, _, _, .nil => rfl
  | _, _, _, .skip h => by simp [h.len]
  | _, _, _, .one _ h _ => by simp [h.len]
theorem SatL.own {K : Fg} {G H : Hp} : ∀ {σ : List (Option V)} {Γ : Env'} {A : List Addr}, SatL K G H σ Γ A → ∀ a ∈ A, H a ≠ none ∧ G a = none
  | _, _, _, .nil => fun a h => by cases h
  | _, _, _, .skip h => h.own
  | _, _, _, .one r h _ => fun a ha => by
    rcases List.mem_append.mp ha with ha | ha
    · exact r.own a ha
    · exact h.own a ha
theorem SatL.to {K : Fg} {G G' H H' : Hp} (e : Same G G') : ∀ {σ : List (Option V)} {Γ : Env'} {A : List Addr}, SatL K G H σ Γ A → (∀ a ∈ A, H' a = H a ∧ G' a = none) → SatL K G' H' σ Γ A
  | _, _, _, .nil, _ => .nil
  | _, _, _, .skip h, k => .skip (h.to e k)
  | _, _, _, .one r h d, k => .one (r.to e fun a ha => k a (List.mem_append_left _ ha)) (h.to e fun a ha => k a (List.mem_append_right _ ha)) d
/-- a slot's value, the rest apart -/
theorem SatL.take {K : Fg} {G H : Hp} : ∀ {σ : List (Option V)} {Γ : Env'} {A : List Addr} {i : Nat} {o : OT}, SatL K G H σ Γ A → Γ[i]? = some (some o) →
    ∃ v B C, σ[i]? = some (some v) ∧ RepO K G H o v B ∧ SatL K G H σ (Γ.set i none) C ∧ (∀ a ∈ B, a ∉ C) ∧ (∀ a ∈ B, a ∈ A) ∧ (∀ a ∈ C, a ∈ A)
  | _, _, _, _, _, .nil, h => by simp at h
  | _, _, _, 0, _, .skip _, h => by simp at h
  | _, _, _, i + 1, _, .skip s, h => by
    obtain ⟨v, B, C, h1, h2, h3, h4, h5, h6⟩ := SatL.take (i := i) s (by simpa using h)
    exact ⟨v, B, C, by simpa using h1, h2, .skip h3, h4, h5, h6⟩
  | _, _, _, 0, _, .one r s d, h => by
    simp at h; subst h
    exact ⟨_, _, _, rfl, r, .skip s, d, fun a ha => List.mem_append_left _ ha, fun a ha => List.mem_append_right _ ha⟩
  | _, _, _, i + 1, _, .one (A := A1) r s d, h => by
    obtain ⟨v, B, C, h1, h2, h3, h4, h5, h6⟩ := SatL.take (i := i) s (by simpa using h)
    refine ⟨v, B, A1 ++ C, by simpa using h1, h2, .one r h3 fun a ha hc => d a ha (h6 a hc), fun a ha hc => ?_, fun a ha => List.mem_append_right _ (h5 a ha), fun a ha => ?_⟩
    · rcases List.mem_append.mp hc with hc | hc
      · exact d a hc (h5 a ha)
      · exact h4 a ha hc
    · rcases List.mem_append.mp ha with ha | ha
      · exact List.mem_append_left _ ha
      · exact List.mem_append_right _ (h6 a ha)
theorem SatL.get {K : Fg} {G H : Hp} {σ : List (Option V)} {Γ : Env'} {A : List Addr} {i : Nat} {o : OT} (s : SatL K G H σ Γ A) (h : Γ[i]? = some (some o)) : ∃ v B, σ[i]? = some (some v) ∧ RepO K G H o v B ∧ ∀ a ∈ B, a ∈ A := by
  obtain ⟨v, B, C, h1, h2, _, _, h5, _⟩ := s.take h
  exact ⟨v, B, h1, h2, h5⟩
/-- forgetting a slot -/
theorem SatL.drop {K : Fg} {G H : Hp} : ∀ {σ : List (Option V)} {Γ : Env'} {A : List Addr} (i : Nat), SatL K G H σ Γ A → ∃ B, SatL K G H σ (Γ.set i none) B ∧ ∀ a ∈ B, a ∈ A
  | _, _, _, _, .nil => ⟨_, .nil, fun _ h => h⟩
  | _, _, _, 0, .skip s => ⟨_, .skip s, fun _ h => h⟩
  | _, _, _, i + 1, .skip s => by
    obtain ⟨B, h1, h2⟩ := s.drop i
    exact ⟨B, .skip h1, h2⟩
  | _, _, _, 0, .one r s d => ⟨_, .skip s, fun a h => List.mem_append_right _ h⟩
  | _, _, _, i + 1, .one (A := A1) r s d => by
    obtain ⟨B, h1, h2⟩ := s.drop i
    refine ⟨A1 ++ B, .one r h1 fun a ha hb => d a ha (h2 a hb), fun a ha => ?_⟩
    rcases List.mem_append.mp ha with ha | ha
    · exact List.mem_append_left _ ha
    · exact List.mem_append_right _ (h2 a ha)
/-- storing into a slot -/
theorem SatL.put {K : Fg} {G H : Hp} : ∀ {σ : List (Option V)} {Γ : Env'} {A B : List Addr} {i : Nat} {o : OT} {v : V}, SatL K G H σ Γ A → RepO K G H o v B → (∀ a ∈ B, a ∉ A) →
    ∃ C, SatL K G H (σ.set i (some v)) (Γ.set i (some o)) C ∧ ∀ a ∈ C, a ∈ A ∨ a ∈ B
  | _, _, _, _, _, _, _, .nil, _, _ => ⟨_, .nil, fun _ h => .inl h⟩
  | _, _, _, _, 0, _, _, .skip s, r, d => ⟨_, .one r s d, fun a h => by rcases List.mem_append.mp h with h | h; exact .inr h; exact .inl h⟩
  | _, _, _, _, i + 1, _, _, .skip s, r, d => by
    obtain ⟨C, h1, h2⟩ := SatL.put (i := i) s r d
    exact ⟨C, .skip h1, h2⟩
  | _, _, _, _, 0, _, _, .one r0 s d0, r, d => ⟨_, .one r s fun a ha hb => d a ha (List.mem_append_right _ hb), fun a h => by
      rcases List.mem_append.mp h with h | h
      · exact .inr h
      · exact .inl (List.mem_append_right _ h)⟩
  | _, _, _, B, i + 1, _, _, .one (A := A1) r0 s d0, r, d => by
    obtain ⟨C, h1, h2⟩ := SatL.put (i := i) s r (fun a ha hb => d a ha (List.mem_append_right _ hb))
    refine ⟨A1 ++ C, .one r0 h1 fun a ha hc => ?_, fun a ha => ?_⟩
    · rcases h2 a hc with z | z
      · exact d0 a ha z
      · exact d a z (List.mem_append_left _ ha)
    · rcases List.mem_append.mp ha with ha | ha
      · exact .inl (List.mem_append_left _ ha)
      · rcases h2 a ha with z | z
        · exact .inl (List.mem_append_right _ z)
        · exact .inr z
/-- a slot's tree exchanged for another one at the same value (a list that was written) -/
theorem SatL.swap {K : Fg} {G H : Hp} : ∀ {σ : List (Option V)} {Γ : Env'} {A B : List Addr} {i : Nat} {o : OT} {v : V}, SatL K G H σ (Γ.set i none) A → σ[i]? = some (some v) → RepO K G H o v B → (∀ a ∈ B, a ∉ A) →
    ∃ C, SatL K G H σ (Γ.set i (some o)) C ∧ ∀ a ∈ C, a ∈ A ∨ a ∈ B := by
  intro σ Γ A B i o v s hv r d
  obtain ⟨C, h1, h2⟩ := s.put (i := i) r d
  refine ⟨C, ?_, h2⟩
  have e1 : σ.set i (some v) = σ := by
    obtain ⟨hi, e⟩ := List.getElem?_eq_some_iff.mp hv
    rw [← e]; exact List.set_getElem_self hi
  rw [e1] at h1
  simpa using h1
mutual
/-- what is owned hangs on the tree, the value and the heap alone -/
theorem RepO.uniq {K : Fg} {G G' H H' : Hp} : ∀ {o : OT} {v : V} {A A' : List Addr}, RepO K G H o v A → RepO K G' H' o v A' → (∀ a ∈ A, H' a = H a) → A' = A
  | _, _, _, _, .leaf _, r', _ => by cases r'; rfl
  | _, _, _, _, .lst h _ r _, r', k => by
    cases r' with
    | lst h' _ r2 _ =>
      have e := (k _ List.mem_cons_self).trans h
      rw [h'] at e; cases e
      rw [RepOs.uniq r r2 fun a ha => k a (List.mem_cons_of_mem _ ha)]
  | _, _, _, _, .tup h _ r _, r', k => by
    cases r' with
    | tup h' _ r2 _ =>
      have e := (k _ List.mem_cons_self).trans h
      rw [h'] at e; cases e
      rw [RepOs.uniq r r2 fun a ha => k a (List.mem_cons_of_mem _ ha)]
  | _, _, _, _, .dic _ _ _, r', _ => by cases r'; rfl
  | _, _, _, _, .dct _ _ _, r', _ => by cases r'; rfl
  | _, _, _, _, .scr _, r', _ => by cases r'; rfl
  | _, _, _, _, .raw, r', _ => by cases r'; rfl
theorem RepOs.uniq {K : Fg} {G G' H H' : Hp} : ∀ {os : List OT} {vs : List V} {A A' : List Addr}, RepOs K G H os vs A → RepOs K G' H' os vs A' → (∀ a ∈ A, H' a = H a) → A' = A
  | _, _, _, _, .nil, r', _ => by cases r'; rfl
  | _, _, _, _, .cons a b _, r', k => by
    cases r' with
    | cons a' b' _ => rw [RepO.uniq a a' fun x hx => k x (List.mem_append_left _ hx), RepOs.uniq b b' fun x hx => k x (List.mem_append_right _ hx)]
end
theorem SatL.uniq {K : Fg} {G G' H H' : Hp} : ∀ {σ : List (Option V)} {Γ : Env'} {A A' : List Addr}, SatL K G H σ Γ A → SatL K G' H' σ Γ A' → (∀ a ∈ A, H' a = H a) → A' = A
  | _, _, _, _, .nil, r', _ => by cases r'; rfl
  | _, _, _, _, .skip s, r', k => by
    cases r' with
    | skip s' => exact SatL.uniq s s' k
  | _, _, _, _, .one r s _, r', k => by
    cases r' with
    | one r2 s2 _ => rw [RepO.uniq r r2 fun x hx => k x (List.mem_append_left _ hx), SatL.uniq s s2 fun x hx => k x (List.mem_append_right _ hx)]
/-- a slot forgotten that owns nothing -/
theorem SatL.wipe1 {K : Fg} {G H : Hp} : ∀ {σ : List (Option V)} {Γ : Env'} {A : List Addr} {i : Nat}, SatL K G H σ Γ A → (∀ o, Γ[i]? = some (some o) → ∃ d, o = .leaf d) → SatL K G H (σ.set i none) (Γ.set i none) A
  | _, _, _, _, .nil, _ => .nil
  | _, _, _, 0, .skip s, _ => .skip s
  | _, _, _, i + 1, .skip s, h => .skip (SatL.wipe1 s fun o e => h o (by simpa using e))
  | _, _, _, 0, .one r s _, h => by
    obtain ⟨d, e⟩ := h _ rfl
    subst e
    cases r with
    | leaf r => exact .skip s
  | _, _, _, i + 1, .one r s d, h => .one r (SatL.wipe1 s fun o e => h o (by simpa using e)) d
def wipeG (Γ : Env') : List Nat → Env'
  | [] => Γ
  | v :: vs => (wipeG Γ vs).set v none
/-- the slots vs own nothing -/
def NoOwn (Γ : Env') (vs : List Nat) : Prop := ∀ i ∈ vs, ∀ o, Γ[i]? = some (some o) → ∃ d, o = .leaf d
theorem wipeG_get {Γ : Env'} {i : Nat} {o : OT} : ∀ {vs : List Nat}, (wipeG Γ vs)[i]? = some (some o) → Γ[i]? = some (some o)
  | [], h => h
  | v :: vs, h => by
    unfold wipeG at h
    by_cases hi : v = i
    · subst hi
      by_cases hv : v < (wipeG Γ vs).length
      · rw [List.getElem?_set_self hv] at h; cases h
      · rw [List.getElem?_eq_none (by simpa using hv)] at h; cases h
    · rw [List.getElem?_set_ne hi] at h
      exact wipeG_get h
theorem SatL.wipe {K : Fg} {G H : Hp} {σ : List (Option V)} {Γ : Env'} {A : List Addr} (s : SatL K G H σ Γ A) : ∀ {vs : List Nat}, NoOwn Γ vs → SatL K G H (L2.wipe σ vs) (wipeG Γ vs) A
  | [], _ => s
  | v :: vs, n => (SatL.wipe s (vs := vs) fun i hi => n i (List.mem_cons_of_mem _ hi)).wipe1 fun o e => n v List.mem_cons_self o (wipeG_get e)
theorem wipe_set {σ : List (Option V)} {i : Nat} {x : Option V} : ∀ {vs : List Nat}, i ∈ vs → L2.wipe (σ.set i x) vs = L2.wipe σ vs
  | [], h => by cases h
  | v :: vs, h => by
    show (L2.wipe (σ.set i x) vs).set v none = (L2.wipe σ vs).set v none
    by_cases hi : i ∈ vs
    · rw [wipe_set hi]
    · have e : i = v := by
        rcases List.mem_cons.mp h with h | h
        · exact h
        · exact absurd h hi
      subst e
      have : ∀ ws : List Nat, i ∉ ws → L2.wipe (σ.set i x) ws = (L2.wipe σ ws).set i x := by
        intro ws
        induction ws with
        | nil => intro _; rfl
        | cons w ws ih =>
          intro h
          show (L2.wipe (σ.set i x) ws).set w none = ((L2.wipe σ ws).set w none).set i x
          rw [ih fun z => h (List.mem_cons_of_mem _ z), List.set_comm]
          intro e; exact h (by rw [e]; exact List.mem_cons_self)
      rw [this vs hi, List.set_set]
theorem wipe_wipe {σ : List (Option V)} : ∀ {vs : List Nat}, L2.wipe (L2.wipe σ vs) vs = L2.wipe σ vs := by
  have h : ∀ (us vs : List Nat) (σ : List (Option V)), (∀ u ∈ us, u ∈ vs) → L2.wipe (L2.wipe σ us) vs = L2.wipe σ vs := by
    intro us
    induction us with
    | nil => intro vs σ _; rfl
    | cons u us ih =>
      intro vs σ h
      show L2.wipe ((L2.wipe σ us).set u none) vs = L2.wipe σ vs
      rw [wipe_set (h u List.mem_cons_self), ih vs σ fun x hx => h x (List.mem_cons_of_mem _ hx)]
  exact fun {vs} => h vs vs σ fun _ h => h
/-- storing data into slots, one after another -/
def puts (σ : List (Option V)) : List Nat → List V → List (Option V)
  | j :: js, v :: vs => puts (σ.set j (some v)) js vs
  | _, _ => σ
def putsG (Γ : Env') : List Nat → List PyData → Env'
  | j :: js, d :: ds => putsG (Γ.set j (some (.leaf d))) js ds
  | _, _ => Γ
theorem SatL.puts {K : Fg} {G H : Hp} : ∀ {js : List Nat} {vs : List V} {ds : List PyData} {σ : List (Option V)} {Γ : Env'} {A : List Addr}, SatL K G H σ Γ A → Rps K G vs ds → ∃ C, SatL K G H (V3.puts σ js vs) (putsG Γ js ds) C ∧ ∀ a ∈ C, a ∈ A
  | [], _, _, _, _, _, s, .nil => ⟨_, s, fun _ h => h⟩
  | [], _, _, _, _, _, s, .cons _ _ => ⟨_, s, fun _ h => h⟩
  | _ :: _, _, _, _, _, _, s, .nil => ⟨_, s, fun _ h => h⟩
  | j :: js, _, _, _, _, _, s, .cons a b => by
    obtain ⟨C, h1, h2⟩ := s.put (i := j) (.leaf a) (fun _ h => nomatch h)
    obtain ⟨C', h3, h4⟩ := SatL.puts (js := js) h1 b
    refine ⟨C', h3, fun x hx => ?_⟩
    rcases h2 x (h4 x hx) with z | z
    · exact z
    · cases z
theorem wipe_puts : ∀ {js : List Nat} {ws : List V} {σ : List (Option V)} {vs : List Nat}, (∀ j ∈ js, j ∈ vs) → L2.wipe (puts σ js ws) vs = L2.wipe σ vs
  | [], _, _, _, _ => by cases ‹List V› <;> rfl
  | j :: js, [], _, _, _ => rfl
  | j :: js, w :: ws, σ, vs, h => by
    show L2.wipe (puts (σ.set j (some w)) js ws) vs = L2.wipe σ vs
    rw [wipe_puts fun x hx => h x (List.mem_cons_of_mem _ hx), wipe_set (h j List.mem_cons_self)]
end V3

namespace V3
open PySem PySem.Spec PyProof.Rows L2

abbrev Sl := List (Option V)
/-! ### the state of a def that was entered at (G0, H0) -/
structure Base (G0 H0 G H : Hp) : Prop where
  g : Same G0 G
  h : Same H0 H
  i : Same G H
  n : ∀ a, H0 a ≠ none → G a = G0 a
theorem Base.refl {G H : Hp} (e : Same G H) : Base G H G H := ⟨Same.refl _, Same.refl _, e, fun _ _ => rfl⟩
theorem Base.trans {G0 H0 G1 H1 G2 H2 : Hp} (a : Base G0 H0 G1 H1) (b : Base G1 H1 G2 H2) : Base G0 H0 G2 H2 :=
  ⟨a.g.trans b.g, a.h.trans b.h, b.i, fun x hx => (b.n x (by
    intro z
    cases q : H0 x with
    | none => exact hx q
    | some o => rw [a.h x o q] at z; cases z)).trans (a.n x hx)⟩
def InvS (K : Fg) (G0 H0 G H : Hp) (σ : Sl) (Γ : Env') : Prop := Base G0 H0 G H ∧ ∃ A, SatL K G H σ Γ A ∧ ∀ a ∈ A, H0 a = none
def InvR (K : Fg) (G0 H0 G H : Hp) (σ : Sl) (Γ : Env') (o : OT) (v : V) : Prop :=
  Base G0 H0 G H ∧ ∃ A B, SatL K G H σ Γ A ∧ (∀ a ∈ A, H0 a = none) ∧ RepO K G H o v B ∧ (∀ a ∈ B, H0 a = none) ∧ ∀ a ∈ B, a ∉ A
theorem InvR.s {K : Fg} {G0 H0 G H : Hp} {σ : Sl} {Γ : Env'} {o : OT} {v : V} (h : InvR K G0 H0 G H σ Γ o v) : InvS K G0 H0 G H σ Γ := by
  obtain ⟨b, A, B, s, f, _⟩ := h
  exact ⟨b, A, s, f⟩
theorem InvS.len {K : Fg} {G0 H0 G H : Hp} {σ : Sl} {Γ : Env'} (h : InvS K G0 H0 G H σ Γ) : σ.length = Γ.length := by
  obtain ⟨_, A, s, _⟩ := h
  exact s.len
/-- a callee's (or an allocation's) growth -/
theorem InvS.grow {K : Fg} {G0 H0 G H G' H' : Hp} {σ : Sl} {Γ : Env'} (h : InvS K G0 H0 G H σ Γ) (e : Base G H G' H') : InvS K G0 H0 G' H' σ Γ := by
  obtain ⟨b, A, s, f⟩ := h
  have k : ∀ a ∈ A, H' a = H a ∧ G' a = none := fun a ha => by
    obtain ⟨h1, h2⟩ := s.own a ha
    refine ⟨?_, (e.n a h1).trans h2⟩
    cases q : H a with
    | none => exact absurd q h1
    | some o => exact e.h a o q
  exact ⟨b.trans e, A, s.to e.g k, f⟩
theorem fresh_apart {K : Fg} {G H : Hp} {σ : Sl} {Γ : Env'} {A B : List Addr} (s : SatL K G H σ Γ A) (f : ∀ a ∈ B, H a = none) : ∀ a ∈ B, a ∉ A := fun a ha hb => (s.own a hb).1 (f a ha)
/-- .. with a result of fresh addresses -/
theorem InvS.growR {K : Fg} {G0 H0 G H G' H' : Hp} {σ : Sl} {Γ : Env'} {o : OT} {v : V} {B : List Addr} (h : InvS K G0 H0 G H σ Γ) (e : Base G H G' H') (r : RepO K G' H' o v B) (f : ∀ a ∈ B, H a = none) : InvR K G0 H0 G' H' σ Γ o v := by
  obtain ⟨b, A, s, fa⟩ := h
  obtain ⟨b', A', s', fa'⟩ := InvS.grow ⟨b, A, s, fa⟩ e
  have k : ∀ a ∈ A, H' a = H a ∧ G' a = none := fun a ha => by
    obtain ⟨h1, h2⟩ := s.own a ha
    refine ⟨?_, (e.n a h1).trans h2⟩
    cases q : H a with
    | none => exact absurd q h1
    | some o => exact e.h a o q
  refine ⟨b', A, B, s.to e.g k, fa, r, fun a ha => ?_, fresh_apart s f⟩
  exact b.h.free (f a ha)
theorem base_new {G H : Hp} {p : Addr} {o : HO} (e : Same G H) (h : H p = none) : Base G H G (upd H p o) :=
  ⟨Same.refl _, same_new h, e.trans (same_new h), fun _ _ => rfl⟩
theorem base_newG {G H : Hp} {p : Addr} {o : HO} (e : Same G H) (h : H p = none) : Base G H (upd G p o) (upd H p o) :=
  ⟨same_new (e.free h), same_new h, same_upd2 e, fun a ha => upd_ne fun z => ha (by rw [z]; exact h)⟩
theorem InvS.i {K : Fg} {G0 H0 G H : Hp} {σ : Sl} {Γ : Env'} (h : InvS K G0 H0 G H σ Γ) : Same G H := h.1.i
/-- the result frozen -/
theorem InvR.freeze {K : Fg} {G0 H0 G H : Hp} {σ : Sl} {Γ : Env'} {o : OT} {v : V} (h : InvR K G0 H0 G H σ Γ o v) (p : o.plain = true) : ∃ G', Same G G' ∧ InvR K G0 H0 G' H σ Γ (.leaf o.data) v := by
  obtain ⟨b, A, B, s, fa, r, fb, d⟩ := h
  have e1 : Same G (addG G H B) := addG_same b.i
  refine ⟨addG G H B, e1, ⟨b.g.trans e1, b.h, addG_le b.i, fun a ha => ?_⟩, A, [], s.to e1 (fun a ha => ⟨rfl, ?_⟩), fa, .leaf (r.anchor e1 (fun a ha => addG_in ha) p), (fun _ h => nomatch h), fun _ h => nomatch h⟩
  · rw [addG_out fun z => ha (fb a z)]
    exact b.n a ha
  · rw [addG_out fun z => d a z ha]
    exact (s.own a ha).2

/-! ### the strongest readings -/
def RunE (X : Cx) (e : Expr) : TE := fun σ H Q => ∃ t, PE X e t ∧ t σ H Q
def RunT (X : Cx) (e : Expr) : TT := fun σ H Q => ∃ t, PT X e t ∧ t σ H Q
def RunW (X : Cx) (e : Expr) : TT := fun σ H Q => ∃ t, PW X e t ∧ t σ H Q
def RunA (X : Cx) (es : List Expr) : TA := fun σ H Q => ∃ t, PA X es t ∧ t σ H Q
def RunS (X : Cx) (st : Stmt) : TS := fun D σ H => ∃ t, PS X st t ∧ t D σ H
def RunB (X : Cx) (sts : List Stmt) : TS := fun D σ H => ∃ t, PSs X sts t ∧ t D σ H
def RunO (X : Cx) (e : Option Expr) : TO := fun σ H Q => ∃ t, PO X e t ∧ t σ H Q
theorem runE (X : Cx) (e : Expr) : PE X e (RunE X e) := ⟨fun pins s σ H Q I ⟨_, p, h⟩ => p.run pins s σ H Q I h⟩
theorem runT (X : Cx) (e : Expr) : PT X e (RunT X e) := ⟨fun pins s σ H Q I ⟨_, p, h⟩ => p.run pins s σ H Q I h⟩
theorem runW (X : Cx) (e : Expr) : PW X e (RunW X e) := ⟨fun wh pins s σ H Q I ⟨_, p, h⟩ => p.run wh pins s σ H Q I h⟩
theorem runA (X : Cx) (es : List Expr) : PA X es (RunA X es) := ⟨fun pos pins s σ H Q I ⟨_, p, h⟩ => p.run pos pins s σ H Q I h⟩
theorem runS (X : Cx) (st : Stmt) : PS X st (RunS X st) := ⟨fun pins s σ H D I ⟨_, p, h⟩ => p.run pins s σ H D I h⟩
theorem runB (X : Cx) (sts : List Stmt) : PSs X sts (RunB X sts) := ⟨fun pins s σ H D I ⟨_, p, h⟩ => p.run pins s σ H D I h⟩
theorem runO (X : Cx) (e : Option Expr) : PO X e (RunO X e) := ⟨fun pins s σ H Q I ⟨_, p, h⟩ => p.run pins s σ H Q I h⟩

/-! ### judgements upon slots -/
/-- e gives o, the slots are Γ' behind it (what was moved is gone) -/
def VM (X : Cx) (Γ : Env') (e : Expr) (o : OT) (Γ' : Env') : Prop := ∀ (G0 H0 G H : Hp) (σ : Sl), InvS X.K G0 H0 G H σ Γ → ∀ Q : VK,
  (∀ v G' H', Same G G' → Same H H' → InvR X.K G0 H0 G' H' σ Γ' o v → Q v H') → RunE X e σ H Q
abbrev VE (X : Cx) (Γ : Env') (e : Expr) (o : OT) : Prop := VM X Γ e o Γ
abbrev VD (X : Cx) (Γ : Env') (e : Expr) (d : PyData) : Prop := VM X Γ e (.leaf d) Γ
/-- e is seen as d -/
def VV (X : Cx) (Γ : Env') (e : Expr) (d : PyData) : Prop := ∀ (G0 H0 G H : Hp) (σ : Sl), InvS X.K G0 H0 G H σ Γ → ∀ Q : VK,
  (∀ v G' H', Same G G' → Same H H' → InvS X.K G0 H0 G' H' σ Γ → Rp X.K H' v d → Q v H') → RunE X e σ H Q
/-- a list, a tuple that is seen, its items anchored -/
def VL (X : Cx) (Γ : Env') (e : Expr) (ds : List PyData) : Prop := ∀ (G0 H0 G H : Hp) (σ : Sl), InvS X.K G0 H0 G H σ Γ → ∀ Q : VK,
  (∀ p vs G' H', Same G G' → Same H H' → InvS X.K G0 H0 G' H' σ Γ → H' p = some (.lst vs) → Rps X.K G' vs ds → Q (.ref p) H') → RunE X e σ H Q
def VT (X : Cx) (Γ : Env') (e : Expr) (ds : List PyData) : Prop := ∀ (G0 H0 G H : Hp) (σ : Sl), InvS X.K G0 H0 G H σ Γ → ∀ Q : VK,
  (∀ p vs G' H', Same G G' → Same H H' → InvS X.K G0 H0 G' H' σ Γ → H' p = some (.tup vs) → Rps X.K G' vs ds → Q (.ref p) H') → RunE X e σ H Q
/-- a test -/
def VB (X : Cx) (Γ : Env') (e : Expr) (b : Bool) : Prop := ∀ (G0 H0 G H : Hp) (σ : Sl), InvS X.K G0 H0 G H σ Γ → ∀ Q : Bool → Hp → Prop,
  (∀ G' H', Same G G' → Same H H' → InvS X.K G0 H0 G' H' σ Γ → Q b H') → RunT X e σ H Q
def VW (X : Cx) (Γ : Env') (e : Expr) (b : Bool) : Prop := ∀ (G0 H0 G H : Hp) (σ : Sl), InvS X.K G0 H0 G H σ Γ → ∀ Q : Bool → Hp → Prop,
  (∀ G' H', Same G G' → Same H H' → InvS X.K G0 H0 G' H' σ Γ → Q b H') → RunW X e σ H Q
/-- arguments: all anchored -/
def VA (X : Cx) (Γ : Env') (es : List Expr) (ds : List PyData) : Prop := ∀ (G0 H0 G H : Hp) (σ : Sl), InvS X.K G0 H0 G H σ Γ → ∀ Q : List V → Hp → Prop,
  (∀ vs G' H', Same G G' → Same H H' → InvS X.K G0 H0 G' H' σ Γ → Rps X.K G' vs ds → Q vs H') → RunA X es σ H Q
/-- arguments of a display: trees, moved -/
def VMs (X : Cx) (Γ : Env') (es : List Expr) (os : List OT) (Γ' : Env') : Prop := ∀ (G0 H0 G H : Hp) (σ : Sl), InvS X.K G0 H0 G H σ Γ → ∀ Q : List V → Hp → Prop,
  (∀ vs G' H' A B, Same G G' → Same H H' → Base G0 H0 G' H' → SatL X.K G' H' σ Γ' A → (∀ a ∈ A, H0 a = none) → RepOs X.K G' H' os vs B → (∀ a ∈ B, H0 a = none) → (∀ a ∈ B, a ∉ A) → Q vs H') → RunA X es σ H Q
/-- a slice's part -/
def VP (X : Cx) (Γ : Env') (e : Option Expr) (o : Option Int) : Prop := ∀ (G0 H0 G H : Hp) (σ : Sl), InvS X.K G0 H0 G H σ Γ → ∀ Q : Option Int → Hp → Prop,
  (∀ G' H', Same G G' → Same H H' → InvS X.K G0 H0 G' H' σ Γ → Q o H') → RunO X e σ H Q

section
variable {X : Cx} {Γ Γ' : Env'} {e a b c : Expr} {pos : Pos} {i j : Int} {d : PyData} {ds : List PyData} {o : OT} {os : List OT}

theorem leaf_inv {K : Fg} {G0 H0 G H : Hp} {σ : Sl} {d : PyData} {v : V} (h : InvR K G0 H0 G H σ Γ (.leaf d) v) : Rp K G v d := by
  obtain ⟨_, _, _, _, _, r, _⟩ := h
  cases r with
  | leaf r => exact r
theorem InvS.leafR {K : Fg} {G0 H0 G H : Hp} {σ : Sl} {v : V} (h : InvS K G0 H0 G H σ Γ) (r : Rp K G v d) : InvR K G0 H0 G H σ Γ (.leaf d) v := by
  obtain ⟨b, A, s, f⟩ := h
  exact ⟨b, A, [], s, f, .leaf r, (fun _ h => nomatch h), fun _ h => nomatch h⟩
theorem VM.freeze (h : VM X Γ e o Γ') (p : o.plain = true) : VM X Γ e (.leaf o.data) Γ' := fun G0 H0 G H σ I Q q =>
  h G0 H0 G H σ I Q fun v G' H' g hh r => by
    obtain ⟨G2, e2, r2⟩ := r.freeze p
    exact q v G2 H' (g.trans e2) hh r2
theorem VM.frz (h : VM X Γ e (.lst (lfs ds)) Γ') : VM X Γ e (.leaf (.list ds)) Γ' := by
  have := h.freeze (plains_lfs ds)
  rw [show (OT.lst (lfs ds)).data = .list ds by show PyData.list (OT.datas (lfs ds)) = _; rw [datas_lfs]] at this
  exact this
theorem VM.is {o' : OT} (h : VM X Γ e o Γ') (e' : o = o') : VM X Γ e o' Γ' := e' ▸ h
theorem VB.is {k k' : Bool} (h : VB X Γ e k) (e' : k = k') : VB X Γ e k' := e' ▸ h
theorem VV.is {d' : PyData} (h : VV X Γ e d) (e' : d = d') : VV X Γ e d' := e' ▸ h
theorem VL.is {ds' : List PyData} (h : VL X Γ e ds) (e' : ds = ds') : VL X Γ e ds' := e' ▸ h
/-! views -/
theorem VM.view (h : VM X Γ e o Γ) (p : o.plain = true) : VV X Γ e o.data := fun G0 H0 G H σ I Q q =>
  h G0 H0 G H σ I Q fun v G' H' g hh r => by
    obtain ⟨b, A, B, s, fa, r', fb, d⟩ := r
    exact q v G' H' g hh ⟨b, A, s, fa⟩ (r'.view b.i p)
theorem VM.v (h : VM X Γ e (.leaf d) Γ) : VV X Γ e d := h.view rfl
theorem VM.vl (h : VM X Γ e (.lst (lfs ds)) Γ) : VL X Γ e ds := fun G0 H0 G H σ I Q q =>
  h G0 H0 G H σ I Q fun v G' H' g hh r => by
    obtain ⟨b, A, B, s, fa, r', fb, d⟩ := r
    cases r' with
    | lst hp hg rs _ => exact q _ _ G' H' g hh ⟨b, A, s, fa⟩ hp rs.lfs_inv.1
theorem VM.l (h : VM X Γ e (.leaf (.list ds)) Γ) : VL X Γ e ds := fun G0 H0 G H σ I Q q =>
  h G0 H0 G H σ I Q fun v G' H' g hh r => by
    have r' := leaf_inv r
    cases r' with
    | lst hs ha => exact q _ _ G' H' g hh r.s (r.s.i _ _ hs) ha
theorem VM.t (h : VM X Γ e (.leaf (.tuple ds)) Γ) : VT X Γ e ds := fun G0 H0 G H σ I Q q =>
  h G0 H0 G H σ I Q fun v G' H' g hh r => by
    have r' := leaf_inv r
    cases r' with
    | tup hs ha => exact q _ _ G' H' g hh r.s (r.s.i _ _ hs) ha
theorem VM.vt (h : VM X Γ e (.tup (lfs ds)) Γ) : VT X Γ e ds := fun G0 H0 G H σ I Q q =>
  h G0 H0 G H σ I Q fun v G' H' g hh r => by
    obtain ⟨b, A, B, s, fa, r', fb, d⟩ := r
    cases r' with
    | tup hp hg rs _ => exact q _ _ G' H' g hh ⟨b, A, s, fa⟩ hp rs.lfs_inv.1
/-- a list seen, its items flat -/
theorem VV.l (h : VV X Γ e (.list ds)) (f : ds.all flatD = true) : VL X Γ e ds := fun G0 H0 G H σ I Q q =>
  h G0 H0 G H σ I Q fun v G' H' g hh I' r => by
    cases r with
    | lst hs ha => exact q _ _ G' H' g hh I' hs (dps_flat ha f)
theorem VV.t (h : VV X Γ e (.tuple ds)) (f : ds.all flatD = true) : VT X Γ e ds := fun G0 H0 G H σ I Q q =>
  h G0 H0 G H σ I Q fun v G' H' g hh I' r => by
    cases r with
    | tup hs ha => exact q _ _ G' H' g hh I' hs (dps_flat ha f)
theorem VL.v (h : VL X Γ e ds) : VV X Γ e (.list ds) := fun G0 H0 G H σ I Q q =>
  h G0 H0 G H σ I Q fun p vs G' H' g hh I' hs ha => q _ G' H' g hh I' (.lst hs (dps_mono I'.i ha))
theorem VT.v (h : VT X Γ e ds) : VV X Γ e (.tuple ds) := fun G0 H0 G H σ I Q q =>
  h G0 H0 G H σ I Q fun p vs G' H' g hh I' hs ha => q _ G' H' g hh I' (.tup hs (dps_mono I'.i ha))
/-- flat data seen is data -/
theorem VV.toD (h : VV X Γ e d) (f : flatD d = true) : VD X Γ e d := fun G0 H0 G H σ I Q q =>
  h G0 H0 G H σ I Q fun v G' H' g hh I' r => q v G' H' g hh (I'.leafR (dp_flat r f))

/-! ### names and constants -/
/-- a name whose slot holds data -/
theorem ve_var {k : Nat} {x : Str} (hs : Γ[k]? = some (some (.leaf d))) (hN : X.N[k]? = some x := by rfl) (hv : Vis X.env.scope x := by first | exact Or.inl rfl | exact Or.inr (Or.inl rfl) | exact Or.inr (Or.inr rfl))
    (hd : (x == ("__debug__" : Str)) = false := by decide) (hcd : (x == ("__classdict__" : Str)) = false := by decide) : VD X Γ (.Name x pos) d := fun G0 H0 G H σ I Q q => by
  obtain ⟨b, A, s, f⟩ := I
  obtain ⟨v, B, h1, r, _⟩ := s.get hs
  refine ⟨_, pe_var hN hv hd hcd, v, h1, q v G H (Same.refl _) (Same.refl _) ?_⟩
  cases r with
  | leaf r => exact InvS.leafR ⟨b, A, s, f⟩ r
/-- .. moved out of its slot -/
theorem vm_var {k : Nat} {x : Str} (hs : Γ[k]? = some (some o)) (hN : X.N[k]? = some x := by rfl) (hv : Vis X.env.scope x := by first | exact Or.inl rfl | exact Or.inr (Or.inl rfl) | exact Or.inr (Or.inr rfl))
    (hd : (x == ("__debug__" : Str)) = false := by decide) (hcd : (x == ("__classdict__" : Str)) = false := by decide) : VM X Γ (.Name x pos) o (Γ.set k none) := fun G0 H0 G H σ I Q q => by
  obtain ⟨b, A, s, f⟩ := I
  obtain ⟨v, B, C, h1, r, s', d, hB, hC⟩ := s.take hs
  exact ⟨_, pe_var hN hv hd hcd, v, h1, q v G H (Same.refl _) (Same.refl _) ⟨b, C, B, s', fun a ha => f a (hC a ha), r, fun a ha => f a (hB a ha), d⟩⟩
/-- .. seen -/
theorem vv_var {k : Nat} {x : Str} (hs : Γ[k]? = some (some o)) (p : o.plain = true) (hN : X.N[k]? = some x := by rfl) (hv : Vis X.env.scope x := by first | exact Or.inl rfl | exact Or.inr (Or.inl rfl) | exact Or.inr (Or.inr rfl))
    (hd : (x == ("__debug__" : Str)) = false := by decide) (hcd : (x == ("__classdict__" : Str)) = false := by decide) : VV X Γ (.Name x pos) o.data := fun G0 H0 G H σ I Q q => by
  obtain ⟨b, A, s, f⟩ := I
  obtain ⟨v, B, h1, r, _⟩ := s.get hs
  exact ⟨_, pe_var hN hv hd hcd, v, h1, q v G H (Same.refl _) (Same.refl _) ⟨b, A, s, f⟩ (r.view b.i p)⟩
theorem vl_var {k : Nat} {x : Str} (hs : Γ[k]? = some (some (.lst (lfs ds)))) (hN : X.N[k]? = some x := by rfl) (hv : Vis X.env.scope x := by first | exact Or.inl rfl | exact Or.inr (Or.inl rfl) | exact Or.inr (Or.inr rfl))
    (hd : (x == ("__debug__" : Str)) = false := by decide) (hcd : (x == ("__classdict__" : Str)) = false := by decide) : VL X Γ (.Name x pos) ds := fun G0 H0 G H σ I Q q => by
  obtain ⟨b, A, s, f⟩ := I
  obtain ⟨v, B, h1, r, _⟩ := s.get hs
  cases r with
  | lst hp hg rs _ => exact ⟨_, pe_var hN hv hd hcd, _, h1, q _ _ G H (Same.refl _) (Same.refl _) ⟨b, A, s, f⟩ hp rs.lfs_inv.1⟩
theorem ve_int {k : Nat} : VD X Γ (.Constant (.int i) k pos) (.int i) := fun G0 H0 G H σ I Q q => ⟨_, pe_int, q _ G H (Same.refl _) (Same.refl _) (I.leafR (.int i))⟩
theorem ve_bl {k : Nat} {z : Bool} : VD X Γ (.Constant (.bool z) k pos) (.bool z) := fun G0 H0 G H σ I Q q => ⟨_, pe_bl, q _ G H (Same.refl _) (Same.refl _) (I.leafR (.bl z))⟩
theorem ve_non {k : Nat} : VD X Γ (.Constant .none k pos) .none := fun G0 H0 G H σ I Q q => ⟨_, pe_non, q _ G H (Same.refl _) (Same.refl _) (I.leafR .non)⟩
theorem ve_str {k : Nat} {x : Str} : VD X Γ (.Constant (.str x) k pos) (.str x) := fun G0 H0 G H σ I Q q => ⟨_, pe_str, q _ G H (Same.refl _) (Same.refl _) (I.leafR (.str x))⟩

/-! ### two-place operators upon ints -/
theorem ve_opI {op : Operator} {C : Int → Int → Prop} {g : Int → Int → V} {r : PyData} (ho : OpR X (binaryOp op) (rI C g)) (ha : VD X Γ a (.int i)) (hb : VD X Γ b (.int j)) (hc : C i j) (hr : ∀ H, Rp X.K H (g i j) r) : VD X Γ (.BinOp a op b pos) r :=
  fun G0 H0 G H σ I Q q => ⟨_, pe_op ho (runE X a) (runE X b), ha G0 H0 G H σ I _ fun v G1 H1 g1 h1 r1 => hb G0 H0 G1 H1 σ r1.s _ fun w G2 H2 g2 h2 r2 => by
    have e1 := leaf_inv r1
    have e2 := leaf_inv r2
    cases e1; cases e2
    exact ⟨i, j, rfl, rfl, hc, q _ G2 H2 (g1.trans g2) (h1.trans h2) (r2.s.leafR (hr _))⟩⟩
theorem ve_op0 {op : Operator} {g : Int → Int → V} {r : PyData} (ho : OpR X (binaryOp op) (rI0 g)) (ha : VD X Γ a (.int i)) (hb : VD X Γ b (.int j)) (hr : ∀ H, Rp X.K H (g i j) r) : VD X Γ (.BinOp a op b pos) r :=
  fun G0 H0 G H σ I Q q => ⟨_, pe_op ho (runE X a) (runE X b), ha G0 H0 G H σ I _ fun v G1 H1 g1 h1 r1 => hb G0 H0 G1 H1 σ r1.s _ fun w G2 H2 g2 h2 r2 => by
    have e1 := leaf_inv r1
    have e2 := leaf_inv r2
    cases e1; cases e2
    exact ⟨i, j, rfl, rfl, q _ G2 H2 (g1.trans g2) (h1.trans h2) (r2.s.leafR (hr _))⟩⟩
theorem ve_add (ha : VD X Γ a (.int i)) (hb : VD X Γ b (.int j)) : VD X Γ (.BinOp a .Add b pos) (.int (i + j)) := ve_op0 op_add ha hb fun _ => .int _
theorem ve_sub (ha : VD X Γ a (.int i)) (hb : VD X Γ b (.int j)) : VD X Γ (.BinOp a .Sub b pos) (.int (i - j)) := ve_op0 op_sub ha hb fun _ => .int _
theorem ve_mul (ha : VD X Γ a (.int i)) (hb : VD X Γ b (.int j)) (hc : CMul i j) : VD X Γ (.BinOp a .Mult b pos) (.int (i * j)) := ve_opI op_mul ha hb hc fun _ => .int _
theorem ve_mulW (ha : VD X Γ a (.int i)) (hb : VD X Γ b (.int j)) (hc : CMulW i j) : VD X Γ (.BinOp a .Mult b pos) (.int (i * j)) := ve_opI op_mulW ha hb hc fun _ => .int _
theorem ve_fdiv (ha : VD X Γ a (.int i)) (hb : VD X Γ b (.int j)) (hc : CDiv i j) : VD X Γ (.BinOp a .FloorDiv b pos) (.int (i / j)) := ve_opI op_fdiv ha hb hc fun _ => .int _
theorem ve_fdivW (ha : VD X Γ a (.int i)) (hb : VD X Γ b (.int j)) (hc : CDivW i j) : VD X Γ (.BinOp a .FloorDiv b pos) (.int (i / j)) := ve_opI op_fdivW ha hb hc fun _ => .int _
theorem ve_mod (ha : VD X Γ a (.int i)) (hb : VD X Γ b (.int j)) (hc : 0 < j) : VD X Γ (.BinOp a .Mod b pos) (.int (i % j)) := ve_opI op_mod ha hb hc fun _ => .int _
theorem ve_pow (ha : VD X Γ a (.int i)) (hb : VD X Γ b (.int j)) (hc : CPow i j) : VD X Γ (.BinOp a .Pow b pos) (.int (i ^ j.toNat)) := ve_opI op_pow ha hb hc fun _ => .int _
theorem ve_shl (ha : VD X Γ a (.int i)) (hb : VD X Γ b (.int j)) (hc : CPow i j) : VD X Γ (.BinOp a .LShift b pos) (.int (i * 2 ^ j.toNat)) := ve_opI op_shl ha hb hc fun _ => .int _
theorem ve_shr (ha : VD X Γ a (.int i)) (hb : VD X Γ b (.int j)) (hc : 0 ≤ j) : VD X Γ (.BinOp a .RShift b pos) (.int (i / 2 ^ j.toNat)) := ve_opI op_shr ha hb hc fun _ => .int _
theorem ve_and (ha : VD X Γ a (.int i)) (hb : VD X Γ b (.int j)) : VD X Γ (.BinOp a .BitAnd b pos) (.int (Builtin.bitAnd i j)) := ve_op0 op_and ha hb fun _ => .int _
theorem ve_or (ha : VD X Γ a (.int i)) (hb : VD X Γ b (.int j)) : VD X Γ (.BinOp a .BitOr b pos) (.int (Builtin.bitOr i j)) := ve_op0 op_or ha hb fun _ => .int _
theorem ve_neg (ha : VD X Γ a (.int i)) : VD X Γ (.UnaryOp .USub a pos) (.int (-i)) :=
  fun G0 H0 G H σ I Q q => ⟨_, pe_un un_neg (runE X a), ha G0 H0 G H σ I _ fun v G1 H1 g1 h1 r1 => by
    have e1 := leaf_inv r1
    cases e1
    exact ⟨i, rfl, q _ G1 H1 g1 h1 (r1.s.leafR (.int _))⟩⟩

/-! ### comparisons -/
/-- a op b is k -/
def VC (X : Cx) (Γ : Env') (op : CmpOp) (a b : Expr) (k : Bool) : Prop := behindInMarks op b = false ∧ ∃ r, OpR X (compareOp op) r ∧ ∀ (G0 H0 G H : Hp) (σ : Sl), InvS X.K G0 H0 G H σ Γ → ∀ Q : VK,
  (∀ G' H', Same G G' → Same H H' → InvS X.K G0 H0 G' H' σ Γ → Q (.bl k) H') → RunE X a σ H fun x H1 => RunE X b σ H1 fun y H2 => r x y H2 Q
theorem ve_cmp {op : CmpOp} {k : Bool} (h : VC X Γ op a b k) : VD X Γ (.Compare a [op] [b] pos) (.bool k) := fun G0 H0 G H σ I Q q => by
  obtain ⟨hm, r, ho, w⟩ := h
  exact ⟨_, pe_cmpR ho (runE X a) (runE X b) hm, w G0 H0 G H σ I Q fun G' H' g hh I' => q _ G' H' g hh (I'.leafR (.bl k))⟩
theorem vb_cmp {op : CmpOp} {k : Bool} (h : VC X Γ op a b k) : VB X Γ (.Compare a [op] [b] pos) k := fun G0 H0 G H σ I Q q => by
  obtain ⟨hm, r, ho, w⟩ := h
  exact ⟨_, pt_cmpR ho (runE X a) (runE X b) hm, w G0 H0 G H σ I _ fun G' H' g hh I' => ⟨k, rfl, q G' H' g hh I'⟩⟩
theorem vc_is {op : CmpOp} {k k' : Bool} (h : VC X Γ op a b k) (e : k = k') : VC X Γ op a b k' := e ▸ h
theorem vc_int {op : CmpOp} {g : Int → Int → V} {k : Bool} (ho : OpR X (compareOp op) (rI0 g)) (hg : g i j = .bl k) (ha : VD X Γ a (.int i)) (hb : VD X Γ b (.int j)) (hm : behindInMarks op b = false) : VC X Γ op a b k :=
  ⟨hm, _, ho, fun G0 H0 G H σ I Q q => ha G0 H0 G H σ I _ fun v G1 H1 g1 h1 r1 => hb G0 H0 G1 H1 σ r1.s _ fun w G2 H2 g2 h2 r2 => by
    have e1 := leaf_inv r1
    have e2 := leaf_inv r2
    cases e1; cases e2
    exact ⟨i, j, rfl, rfl, by rw [hg]; exact q G2 H2 (g1.trans g2) (h1.trans h2) r2.s⟩⟩
theorem vc_lt (ha : VD X Γ a (.int i)) (hb : VD X Γ b (.int j)) : VC X Γ .Lt a b (decide (i < j)) := vc_int op_lt rfl ha hb (nomark _)
theorem vc_le (ha : VD X Γ a (.int i)) (hb : VD X Γ b (.int j)) : VC X Γ .LtE a b (decide (i ≤ j)) := vc_int op_le rfl ha hb (nomark _)
theorem vc_gt (ha : VD X Γ a (.int i)) (hb : VD X Γ b (.int j)) : VC X Γ .Gt a b (decide (j < i)) := vc_int op_gt rfl ha hb (nomark _)
theorem vc_ge (ha : VD X Γ a (.int i)) (hb : VD X Γ b (.int j)) : VC X Γ .GtE a b (decide (j ≤ i)) := vc_int op_ge rfl ha hb (nomark _)
theorem vc_eqI (ha : VD X Γ a (.int i)) (hb : VD X Γ b (.int j)) : VC X Γ .Eq a b (decide (i = j)) :=
  ⟨nomark _, _, op_eq, fun G0 H0 G H σ I Q q => ha G0 H0 G H σ I _ fun v G1 H1 g1 h1 r1 => hb G0 H0 G1 H1 σ r1.s _ fun w G2 H2 g2 h2 r2 => by
    have e1 := leaf_inv r1
    have e2 := leaf_inv r2
    cases e1; cases e2
    refine ⟨rfl, ?_⟩
    rw [show decide (V.int i = V.int j) = decide (i = j) by rw [dec_int, Bool.beq_eq_decide_eq]]
    exact q G2 H2 (g1.trans g2) (h1.trans h2) r2.s⟩
theorem vc_neI (ha : VD X Γ a (.int i)) (hb : VD X Γ b (.int j)) : VC X Γ .NotEq a b (!decide (i = j)) :=
  ⟨nomark _, _, op_ne, fun G0 H0 G H σ I Q q => ha G0 H0 G H σ I _ fun v G1 H1 g1 h1 r1 => hb G0 H0 G1 H1 σ r1.s _ fun w G2 H2 g2 h2 r2 => by
    have e1 := leaf_inv r1
    have e2 := leaf_inv r2
    cases e1; cases e2
    refine ⟨rfl, ?_⟩
    rw [show decide (V.int i = V.int j) = decide (i = j) by rw [dec_int, Bool.beq_eq_decide_eq]]
    exact q G2 H2 (g1.trans g2) (h1.trans h2) r2.s⟩
/-- room on the stack of the machine, as a def's body has it -/
def Roomy (X : Cx) : Prop := X.A.units + 64 < cLine
theorem vc_eqD {d e : PyData} (hu : Roomy X) (ha : VV X Γ a d) (hb : VV X Γ b e) (sd : SeqAt.shaped d = true) (se : SeqAt.shaped e = true) : VC X Γ .Eq a b (PyData.eqv d e) :=
  ⟨nomark _, _, op_eqD hu, fun G0 H0 G H σ I Q q => ha G0 H0 G H σ I _ fun v G1 H1 g1 h1 I1 r1 => hb G0 H0 G1 H1 σ I1 _ fun w G2 H2 g2 h2 I2 r2 =>
    ⟨d, e, (dp_mono h2 r1).dp, r2.dp, sd, se, q G2 H2 (g1.trans g2) (h1.trans h2) I2⟩⟩
theorem vc_neD {d e : PyData} (hu : Roomy X) (ha : VV X Γ a d) (hb : VV X Γ b e) (sd : SeqAt.shaped d = true) (se : SeqAt.shaped e = true) : VC X Γ .NotEq a b (!PyData.eqv d e) :=
  ⟨nomark _, _, op_neD hu, fun G0 H0 G H σ I Q q => ha G0 H0 G H σ I _ fun v G1 H1 g1 h1 I1 r1 => hb G0 H0 G1 H1 σ I1 _ fun w G2 H2 g2 h2 I2 r2 =>
    ⟨d, e, (dp_mono h2 r1).dp, r2.dp, sd, se, q G2 H2 (g1.trans g2) (h1.trans h2) I2⟩⟩
def isNone : PyData → Bool
  | .none => true
  | _ => false
theorem dp_none {K : Fg} {H : Hp} {v : V} (h : Rp K H v d) : decide (v = .non) = isNone d := by
  cases h <;> simp [isNone]
theorem vc_isN {k : Nat} {p2 : Pos} (ha : VV X Γ a d) : VC X Γ .Is a (.Constant .none k p2) (isNone d) :=
  ⟨nomark _, _, op_isN, fun G0 H0 G H σ I Q q => ha G0 H0 G H σ I _ fun v G1 H1 g1 h1 I1 r1 => ⟨_, pe_non, rfl, by rw [dp_none r1]; exact q G1 H1 g1 h1 I1⟩⟩
theorem vc_notN {k : Nat} {p2 : Pos} (ha : VV X Γ a d) : VC X Γ .IsNot a (.Constant .none k p2) (!isNone d) :=
  ⟨nomark _, _, op_notN, fun G0 H0 G H σ I Q q => ha G0 H0 G H σ I _ fun v G1 H1 g1 h1 I1 r1 => ⟨_, pe_non, rfl, by rw [dp_none r1]; exact q G1 H1 g1 h1 I1⟩⟩
/-- x is True, x is not True: x a bool -/
theorem vc_isB {k k' : Bool} (ha : VD X Γ a (.bool k)) (hb : VD X Γ b (.bool k')) : VC X Γ .Is a b (decide (k = k')) :=
  ⟨nomark _, _, op_is_bl, fun G0 H0 G H σ I Q q => ha G0 H0 G H σ I _ fun v G1 H1 g1 h1 r1 => hb G0 H0 G1 H1 σ r1.s _ fun w G2 H2 g2 h2 r2 => by
    have e1 := leaf_inv r1
    have e2 := leaf_inv r2
    cases e1; cases e2
    exact ⟨k, k', rfl, rfl, q G2 H2 (g1.trans g2) (h1.trans h2) r2.s⟩⟩
theorem vc_notB {k k' : Bool} (ha : VD X Γ a (.bool k)) (hb : VD X Γ b (.bool k')) : VC X Γ .IsNot a b (!decide (k = k')) :=
  ⟨nomark _, _, op_isnot_bl, fun G0 H0 G H σ I Q q => ha G0 H0 G H σ I _ fun v G1 H1 g1 h1 r1 => hb G0 H0 G1 H1 σ r1.s _ fun w G2 H2 g2 h2 r2 => by
    have e1 := leaf_inv r1
    have e2 := leaf_inv r2
    cases e1; cases e2
    exact ⟨k, k', rfl, rfl, q G2 H2 (g1.trans g2) (h1.trans h2) r2.s⟩⟩
/-- x in a list of data -/
theorem vc_inL {d : PyData} (hu : Roomy X) (ho : OpR X (compareOp .In) (rInD X.K)) (hm : behindInMarks .In b = false) (ha : VV X Γ a d) (hb : VV X Γ b (.list ds)) (sd : SeqAt.shaped d = true) (se : SeqAt.shaped (.list ds) = true) : VC X Γ .In a b (ds.any fun z => PyData.eqv z d) :=
  ⟨hm, _, ho, fun G0 H0 G H σ I Q q => ha G0 H0 G H σ I _ fun v G1 H1 g1 h1 I1 r1 => hb G0 H0 G1 H1 σ I1 _ fun w G2 H2 g2 h2 I2 r2 =>
    ⟨d, ds, (dp_mono h2 r1).dp, r2.dp, sd, se, q G2 H2 (g1.trans g2) (h1.trans h2) I2⟩⟩
theorem vc_ninL {d : PyData} (hu : Roomy X) (ho : OpR X (compareOp .NotIn) (rNotInD X.K)) (hm : behindInMarks .NotIn b = false) (ha : VV X Γ a d) (hb : VV X Γ b (.list ds)) (sd : SeqAt.shaped d = true) (se : SeqAt.shaped (.list ds) = true) : VC X Γ .NotIn a b (!ds.any fun z => PyData.eqv z d) :=
  ⟨hm, _, ho, fun G0 H0 G H σ I Q q => ha G0 H0 G H σ I _ fun v G1 H1 g1 h1 I1 r1 => hb G0 H0 G1 H1 σ I1 _ fun w G2 H2 g2 h2 I2 r2 =>
    ⟨d, ds, (dp_mono h2 r1).dp, r2.dp, sd, se, q G2 H2 (g1.trans g2) (h1.trans h2) I2⟩⟩
/-- a < b < c of ints -/
theorem vb_chain {op op' : CmpOp} {g g' : Int → Int → V} {l : Int} {k k' : Bool} (ho : OpR X (compareOp op) (rI0 g)) (ho' : OpR X (compareOp op') (rI0 g')) (hg : g i j = .bl k) (hg' : g' j l = .bl k') (ha : VD X Γ a (.int i)) (hb : VD X Γ b (.int j)) (hc : k = true → VD X Γ c (.int l))
    (hm : lastMarks [op, op'] [b, c] = false := by with_unfolding_all rfl) : VB X Γ (.Compare a [op, op'] [b, c] pos) (k && k') :=
  fun G0 H0 G H σ I Q q => ⟨_, pt_chain ho ho' (runE X a) (runE X b) (runE X c) hm, ha G0 H0 G H σ I _ fun v G1 H1 g1 h1 r1 => hb G0 H0 G1 H1 σ r1.s _ fun w G2 H2 g2 h2 r2 => by
    have e1 := leaf_inv r1
    have e2 := leaf_inv r2
    cases e1; cases e2
    refine ⟨i, j, rfl, rfl, k, hg, ?_⟩
    cases k with
    | false => exact iteF ⟨false, rfl, q G2 H2 (g1.trans g2) (h1.trans h2) r2.s⟩
    | true =>
      refine iteT (hc rfl G0 H0 G2 H2 σ r2.s _ fun z G3 H3 g3 h3 r3 => ?_)
      have e3 := leaf_inv r3
      cases e3
      exact ⟨j, l, rfl, rfl, k', hg', q G3 H3 ((g1.trans g2).trans g3) ((h1.trans h2).trans h3) r3.s⟩⟩
theorem ve_chain {op op' : CmpOp} {g g' : Int → Int → V} {l : Int} {k k' : Bool} (ho : OpR X (compareOp op) (rI0 g)) (ho' : OpR X (compareOp op') (rI0 g')) (hg : g i j = .bl k) (hg' : g' j l = .bl k') (ha : VD X Γ a (.int i)) (hb : VD X Γ b (.int j)) (hc : k = true → VD X Γ c (.int l))
    (hm : lastMarks [op, op'] [b, c] = false := by with_unfolding_all rfl) : VD X Γ (.Compare a [op, op'] [b, c] pos) (.bool (k && k')) :=
  fun G0 H0 G H σ I Q q => ⟨_, pe_chain ho ho' (runE X a) (runE X b) (runE X c) hm, ha G0 H0 G H σ I _ fun v G1 H1 g1 h1 r1 => hb G0 H0 G1 H1 σ r1.s _ fun w G2 H2 g2 h2 r2 => by
    have e1 := leaf_inv r1
    have e2 := leaf_inv r2
    cases e1; cases e2
    refine ⟨i, j, rfl, rfl, k, hg, ?_⟩
    cases k with
    | false => exact iteF (q _ G2 H2 (g1.trans g2) (h1.trans h2) (r2.s.leafR (.bl _)))
    | true =>
      refine iteT (hc rfl G0 H0 G2 H2 σ r2.s _ fun z G3 H3 g3 h3 r3 => ?_)
      have e3 := leaf_inv r3
      cases e3
      exact ⟨j, l, rfl, rfl, by rw [hg']; exact q _ G3 H3 ((g1.trans g2).trans g3) ((h1.trans h2).trans h3) (r3.s.leafR (.bl _))⟩⟩

/-! ### tests -/
theorem vb_val {k : Bool} (h : VD X Γ e (.bool k)) (he : ∀ whole, isTrue e X.env whole = (do let v ← whole; standAt e.pos; holding [v] (truthy v)) := by intro _; rfl) : VB X Γ e k :=
  fun G0 H0 G H σ I Q q => ⟨_, pt_val (runE X e) he, h G0 H0 G H σ I _ fun v G1 H1 g1 h1 r1 => by
    have e1 := leaf_inv r1
    cases e1
    exact ⟨k, rfl, q G1 H1 g1 h1 r1.s⟩⟩
theorem vb_not {k : Bool} (h : VB X Γ a k) : VB X Γ (.UnaryOp .Not a pos) (!k) := fun G0 H0 G H σ I Q q => ⟨_, pt_not (runT X a), h G0 H0 G H σ I _ fun G' H' g hh I' => q G' H' g hh I'⟩
theorem VW.tb {k : Bool} (h : VW X Γ e k) : VB X Γ e k := fun G0 H0 G H σ I Q q => ⟨_, (runW X e).pt, h G0 H0 G H σ I Q q⟩
theorem vw_and1 {k : Bool} (h : VB X Γ a k) : VW X Γ (.BoolOp .And [a] pos) k := fun G0 H0 G H σ I Q q => ⟨_, pw_and1 (runT X a), h G0 H0 G H σ I Q q⟩
theorem vw_or1 {k : Bool} (h : VB X Γ a k) : VW X Γ (.BoolOp .Or [a] pos) k := fun G0 H0 G H σ I Q q => ⟨_, pw_or1 (runT X a), h G0 H0 G H σ I Q q⟩
variable {rest : List Expr}
theorem vw_and {k k' : Bool} (h : VB X Γ a k) (h' : k = true → VW X Γ (.BoolOp .And (b :: rest) pos) k') : VW X Γ (.BoolOp .And (a :: b :: rest) pos) (k && k') :=
  fun G0 H0 G H σ I Q q => ⟨_, pw_and (runT X a) (runW X _), h G0 H0 G H σ I _ fun G1 H1 g1 h1 I1 => by
    cases k with
    | true => exact iteT (h' rfl G0 H0 G1 H1 σ I1 Q fun G2 H2 g2 h2 I2 => q G2 H2 (g1.trans g2) (h1.trans h2) I2)
    | false => exact iteF (q G1 H1 g1 h1 I1)⟩
theorem vw_or {k k' : Bool} (h : VB X Γ a k) (h' : k = false → VW X Γ (.BoolOp .Or (b :: rest) pos) k') : VW X Γ (.BoolOp .Or (a :: b :: rest) pos) (k || k') :=
  fun G0 H0 G H σ I Q q => ⟨_, pw_or (runT X a) (runW X _), h G0 H0 G H σ I _ fun G1 H1 g1 h1 I1 => by
    cases k with
    | true => exact iteT (q G1 H1 g1 h1 I1)
    | false => exact iteF (h' rfl G0 H0 G1 H1 σ I1 Q fun G2 H2 g2 h2 I2 => q G2 H2 (g1.trans g2) (h1.trans h2) I2)⟩
/-- as values -/
theorem ve_one {op} {k : Bool} (h : VD X Γ a (.bool k)) : VD X Γ (.BoolOp op [a] pos) (.bool k) := fun G0 H0 G H σ I Q q => ⟨_, pe_one (runE X a), h G0 H0 G H σ I Q q⟩
theorem ve_andV {k k' : Bool} (h : VD X Γ a (.bool k)) (h' : k = true → VD X Γ (.BoolOp .And (b :: rest) pos) (.bool k')) : VD X Γ (.BoolOp .And (a :: b :: rest) pos) (.bool (k && k')) :=
  fun G0 H0 G H σ I Q q => ⟨_, pe_and (runE X a) (runE X _), h G0 H0 G H σ I _ fun v G1 H1 g1 h1 r1 => by
    have e1 := leaf_inv r1
    cases e1
    refine ⟨k, rfl, ?_⟩
    cases k with
    | true => exact iteT (h' rfl G0 H0 G1 H1 σ r1.s Q fun v G2 H2 g2 h2 I2 => q v G2 H2 (g1.trans g2) (h1.trans h2) I2)
    | false => exact iteF (q _ G1 H1 g1 h1 (r1.s.leafR (.bl _)))⟩
theorem ve_orV {k k' : Bool} (h : VD X Γ a (.bool k)) (h' : k = false → VD X Γ (.BoolOp .Or (b :: rest) pos) (.bool k')) : VD X Γ (.BoolOp .Or (a :: b :: rest) pos) (.bool (k || k')) :=
  fun G0 H0 G H σ I Q q => ⟨_, pe_or (runE X a) (runE X _), h G0 H0 G H σ I _ fun v G1 H1 g1 h1 r1 => by
    have e1 := leaf_inv r1
    cases e1
    refine ⟨k, rfl, ?_⟩
    cases k with
    | true => exact iteT (q _ G1 H1 g1 h1 (r1.s.leafR (.bl _)))
    | false => exact iteF (h' rfl G0 H0 G1 H1 σ r1.s Q fun v G2 H2 g2 h2 I2 => q v G2 H2 (g1.trans g2) (h1.trans h2) I2)⟩
theorem ve_notV {k : Bool} (h : VD X Γ a (.bool k)) : VD X Γ (.UnaryOp .Not a pos) (.bool (!k)) := fun G0 H0 G H σ I Q q => ⟨_, pe_not (runE X a), h G0 H0 G H σ I _ fun v G1 H1 g1 h1 r1 => by
  have e1 := leaf_inv r1
  cases e1
  exact ⟨k, rfl, q _ G1 H1 g1 h1 (r1.s.leafR (.bl _))⟩⟩

/-! ### arguments, displays -/
theorem va_nil : VA X Γ [] [] := fun G0 H0 G H σ I Q q => ⟨_, pa_nil, q [] G H (Same.refl _) (Same.refl _) I .nil⟩
theorem va_cons {es : List Expr} (h : VD X Γ a d) (h' : VA X Γ es ds) (hs : starEach (a :: es) X.env = (false, eval a X.env) :: starEach es X.env := by rfl) : VA X Γ (a :: es) (d :: ds) := fun G0 H0 G H σ I Q q =>
  ⟨_, pa_cons (runE X a) (runA X es) hs, h G0 H0 G H σ I _ fun v G1 H1 g1 h1 r1 => h' G0 H0 G1 H1 σ r1.s _ fun vs G2 H2 g2 h2 I2 a2 => q (v :: vs) G2 H2 (g1.trans g2) (h1.trans h2) I2 (.cons (dp_mono g2 (leaf_inv r1)) a2)⟩
theorem vms_nil : VMs X Γ [] [] Γ := fun G0 H0 G H σ I Q q => by
  obtain ⟨b, A, s, f⟩ := I
  exact ⟨_, pa_nil, q [] G H A [] (Same.refl _) (Same.refl _) b s f .nil (fun _ h => nomatch h) (fun _ h => nomatch h)⟩
theorem VM.keepR {K : Fg} {G0 H0 G H G' H' : Hp} {σ : Sl} {Γ : Env'} {B : List Addr} {v : V} (r : RepO K G H o v B) (g : Same G G') (h : Same H H') (n : ∀ a ∈ B, G' a = none) : RepO K G' H' o v B :=
  r.to g fun a ha => ⟨by
    obtain ⟨h1, _⟩ := r.own a ha
    cases q : H a with
    | none => exact absurd q h1
    | some o => exact h a o q, n a ha⟩
end
end V3

namespace V3
open PySem PySem.Spec PyProof.Rows L2

/-! ### a value that is held while more is evaluated -/
theorem InvR.hold {K : Fg} {G0 H0 G H : Hp} {σ : Sl} {Γ : Env'} {A B : List Addr} {o : OT} {v : V} (b : Base G0 H0 G H) (s : SatL K G H σ Γ A) (fa : ∀ a ∈ A, H0 a = none) (r : RepO K G H o v B) (fb : ∀ a ∈ B, H0 a = none) (d : ∀ a ∈ B, a ∉ A) : InvS K G0 (addG H0 H B) G H σ Γ := by
  refine ⟨⟨b.g, addG_le b.h, b.i, fun a ha => ?_⟩, A, s, fun a ha => ?_⟩
  · by_cases hB : a ∈ B
    · have e1 := (r.own a hB).2
      rw [e1]
      cases q : G0 a with
      | none => rfl
      | some o' => rw [b.g a o' q] at e1; cases e1
    · rw [addG_out hB] at ha
      exact b.n a ha
  · rw [addG_out fun z => d a z ha]
    exact fa a ha
theorem Base.unhold {G0 H0 G H G' H' : Hp} {B : List Addr} (b0 : Base G0 H0 G H) (b : Base G0 (addG H0 H B) G' H') : Base G0 H0 G' H' :=
  ⟨b.g, fun a o h => b.h a o (by unfold addG; by_cases hB : a ∈ B; rw [if_pos hB]; exact b0.h a o h; rw [if_neg hB]; exact h), b.i, fun a ha => b.n a (by
    unfold addG
    by_cases hB : a ∈ B
    · rw [if_pos hB]
      intro z
      cases q : H0 a with
      | none => exact ha q
      | some o => rw [b0.h a o q] at z; cases z
    · rw [if_neg hB]; exact ha)⟩
theorem RepO.held {K : Fg} {G0 H0 G H G' H' : Hp} {B : List Addr} {o : OT} {v : V} (b0 : Base G0 H0 G H) (r : RepO K G H o v B) (b : Base G0 (addG H0 H B) G' H') (e : Same G G') (eh : Same H H') : RepO K G' H' o v B :=
  r.to e fun a ha => by
    obtain ⟨h1, h2⟩ := r.own a ha
    refine ⟨?_, ?_⟩
    · cases q : H a with
      | none => exact absurd q h1
      | some o' => exact eh a o' q
    · have := b.n a (by rw [addG_in ha]; exact h1)
      rw [this]
      cases q : G0 a with
      | none => rfl
      | some o' => rw [b0.g a o' q] at h2; cases h2
theorem RepO.apart {K : Fg} {G H H0 : Hp} {B C : List Addr} {o : OT} {v : V} (r : RepO K G H o v B) (f : ∀ a ∈ C, addG H0 H B a = none) : ∀ a ∈ B, a ∉ C := fun a ha hc => by
  have := f a hc
  rw [addG_in ha] at this
  exact (r.own a ha).1 this
theorem free_of {H0 H : Hp} {B C : List Addr} {G0 G : Hp} (b : Base G0 H0 G H) (f : ∀ a ∈ C, addG H0 H B a = none) : ∀ a ∈ C, H0 a = none := fun a ha => by
  have := f a ha
  unfold addG at this
  by_cases hB : a ∈ B
  · rw [if_pos hB] at this
    exact b.h.free this
  · rw [if_neg hB] at this; exact this

section
variable {X : Cx} {Γ Γ' Γ1 Γ2 : Env'} {e a b c : Expr} {pos : Pos} {i j : Int} {d : PyData} {ds : List PyData} {o : OT} {os : List OT}
theorem vms_cons {es : List Expr} (h : VM X Γ a o Γ1) (h' : VMs X Γ1 es os Γ2) (hs : starEach (a :: es) X.env = (false, eval a X.env) :: starEach es X.env := by rfl) : VMs X Γ (a :: es) (o :: os) Γ2 := fun G0 H0 G H σ I Q q =>
  ⟨_, pa_cons (runE X a) (runA X es) hs, h G0 H0 G H σ I _ fun v G1 H1 g1 h1 ⟨b1, A1, B1, s1, fa1, r1, fb1, d1⟩ =>
    h' G0 (addG H0 H1 B1) G1 H1 σ (InvR.hold b1 s1 fa1 r1 fb1 d1) _ fun vs G2 H2 A2 B2 g2 h2 b2 s2 fa2 r2 fb2 d2 =>
      q (v :: vs) G2 H2 A2 (B1 ++ B2) (g1.trans g2) (h1.trans h2) (Base.unhold b1 b2) s2 (free_of b1 fa2) (.cons (RepO.held b1 r1 b2 g2 h2) r2 (r1.apart fb2)) (fun x hx => by
        rcases List.mem_append.mp hx with hx | hx
        · exact fb1 x hx
        · exact free_of b1 fb2 x hx) (fun x hx hA => by
        rcases List.mem_append.mp hx with hx | hx
        · exact r1.apart fa2 x hx hA
        · exact d2 x hx hA)⟩
theorem VA.ms {es : List Expr} (h : VA X Γ es ds) : VMs X Γ es (lfs ds) Γ := fun G0 H0 G H σ I Q q =>
  h G0 H0 G H σ I Q fun vs G' H' g hh I' a => by
    obtain ⟨b, A, s, f⟩ := I'
    exact q vs G' H' A [] g hh b s f (.of_dps a) (fun _ h => nomatch h) (fun _ h => nomatch h)

/-- a new object is laid: a tree around the trees vs -/
theorem lay_fresh {K : Fg} {G0 H0 G H : Hp} {σ : Sl} {A B : List Addr} {vs : List V} (ho : HO) (b : Base G0 H0 G H) (s : SatL K G H σ Γ A) (fa : ∀ a ∈ A, H0 a = none) (r : RepOs K G H os vs B) (fb : ∀ a ∈ B, H0 a = none) (d : ∀ a ∈ B, a ∉ A) {p : Addr} (hp : H p = none) :
    Base G0 H0 G (upd H p ho) ∧ SatL K G (upd H p ho) σ Γ A ∧ RepOs K G (upd H p ho) os vs B ∧ p ∉ A ∧ p ∉ B ∧ H0 p = none ∧ G p = none := by
  have nA : p ∉ A := fun z => (s.own p z).1 hp
  have nB : p ∉ B := fun z => (r.own p z).1 hp
  have gp : G p = none := b.i.free hp
  refine ⟨⟨b.g, b.h.trans (same_new hp), b.i.trans (same_new hp), b.n⟩, s.to (Same.refl _) (fun a ha => ⟨upd_ne fun z => nA (z ▸ ha), (s.own a ha).2⟩), r.to (Same.refl _) (fun a ha => ⟨upd_ne fun z => nB (z ▸ ha), (r.own a ha).2⟩), nA, nB, b.h.free hp, gp⟩
theorem szle {n : Nat} (h : n ≤ 1000000) : n ≤ sizeLine := Nat.le_trans h (by decide)
theorem szlt {n : Nat} (h : n < 1000000) : n < sizeLine := Nat.lt_of_lt_of_le h (by decide)
theorem ve_list {es : List Expr} (h : VMs X Γ es os Γ') (hl : os.length ≤ 1000000) : VM X Γ (.List es pos) (.lst os) Γ' := fun G0 H0 G H σ I Q q =>
  ⟨_, pe_lst (runA X es), h G0 H0 G H σ I _ fun vs G1 H1 A B g1 h1 b s fa r fb d => ⟨szle (by rw [← r.len]; exact hl), fun p hp => by
      obtain ⟨b', s', r', nA, nB, h0p, gp⟩ := lay_fresh (.lst vs) b s fa r fb d hp
      exact q _ G1 _ g1 (h1.trans (same_new hp)) ⟨b', A, p :: B, s', fa, .lst upd_same gp r' nB, fun a ha => by
        rcases List.mem_cons.mp ha with rfl | ha
        · exact h0p
        · exact fb a ha, fun a ha => by
        rcases List.mem_cons.mp ha with rfl | ha
        · exact nA
        · exact d a ha⟩⟩⟩
theorem ve_tup {es : List Expr} {k : Nat} (h : VMs X Γ es os Γ') (hl : os.length ≤ 1000000) : VM X Γ (.Tuple es k pos) (.tup os) Γ' := fun G0 H0 G H σ I Q q =>
  ⟨_, pe_tup (runA X es), h G0 H0 G H σ I _ fun vs G1 H1 A B g1 h1 b s fa r fb d => ⟨szle (by rw [← r.len]; exact hl), fun p hp => by
      obtain ⟨b', s', r', nA, nB, h0p, gp⟩ := lay_fresh (.tup vs) b s fa r fb d hp
      exact q _ G1 _ g1 (h1.trans (same_new hp)) ⟨b', A, p :: B, s', fa, .tup upd_same gp r' nB, fun a ha => by
        rcases List.mem_cons.mp ha with rfl | ha
        · exact h0p
        · exact fb a ha, fun a ha => by
        rcases List.mem_cons.mp ha with rfl | ha
        · exact nA
        · exact d a ha⟩⟩⟩
theorem lfs_len (ds : List PyData) : (lfs ds).length = ds.length := by simp [lfs]
theorem ve_listL {es : List Expr} (h : VA X Γ es ds) (hl : ds.length ≤ 1000000) : VE X Γ (.List es pos) (.lst (lfs ds)) := ve_list h.ms (by rw [lfs_len]; exact hl)
theorem ve_tupL {es : List Expr} {k : Nat} (h : VA X Γ es ds) (hl : ds.length ≤ 1000000) : VD X Γ (.Tuple es k pos) (.tuple ds) := by
  have := (ve_tup (pos := pos) (k := k) h.ms (by rw [lfs_len]; exact hl)).freeze (plains_lfs ds)
  rw [show (OT.tup (lfs ds)).data = .tuple ds by show PyData.tuple (OT.datas (lfs ds)) = _; rw [datas_lfs]] at this
  exact this
/-- a new list of anchored items: what an operation that lays one gives -/
theorem new_list {K : Fg} {G0 H0 G H : Hp} {σ : Sl} {vs : List V} (I : InvS K G0 H0 G H σ Γ) (a : Rps K G vs ds) {p : Addr} (hp : H p = none) : InvR K G0 H0 G (upd H p (.lst vs)) σ Γ (.lst (lfs ds)) (.ref p) := by
  obtain ⟨b, A, s, fa⟩ := I
  obtain ⟨b', s', r', nA, nB, h0p, gp⟩ := lay_fresh (.lst vs) b s fa (RepOs.of_dps a) (fun _ h => nomatch h) (fun _ h => nomatch h) hp
  exact ⟨b', A, [p], s', fa, .lst upd_same gp r' nB, (fun a ha => (List.mem_singleton.mp ha) ▸ h0p), fun a ha => (List.mem_singleton.mp ha) ▸ nA⟩
theorem new_tup {K : Fg} {G0 H0 G H : Hp} {σ : Sl} {vs : List V} (I : InvS K G0 H0 G H σ Γ) (a : Rps K G vs ds) {p : Addr} (hp : H p = none) : InvR K G0 H0 G (upd H p (.tup vs)) σ Γ (.tup (lfs ds)) (.ref p) := by
  obtain ⟨b, A, s, fa⟩ := I
  obtain ⟨b', s', r', nA, nB, h0p, gp⟩ := lay_fresh (.tup vs) b s fa (RepOs.of_dps a) (fun _ h => nomatch h) (fun _ h => nomatch h) hp
  exact ⟨b', A, [p], s', fa, .tup upd_same gp r' nB, (fun a ha => (List.mem_singleton.mp ha) ▸ h0p), fun a ha => (List.mem_singleton.mp ha) ▸ nA⟩

/-! ### calls of the text's defs -/
/-- a def's promise: pre tells which tree it hands back for which data -/
def SpD (K : Fg) (pre : List PyData → OT → Prop) : Sp := fun vs H Q _ => ∃ G ds o, Same G H ∧ Rps K G vs ds ∧ pre ds o ∧ ∀ v G' H' B, Base G H G' H' → RepO K G' H' o v B → (∀ a ∈ B, H a = none) → Q v H'
structure Cal (P : Program) (w : World) (K : Fg) (mg : Str → Option Value) (base : Heap) (k : Nat) (x : Str) (n : Nat) (sp : Sp) : Prop where
  ex : ∃ (f : Addr) (fd : FuncData) (ps : List Str), FnOk P w K mg base CX0 k f fd ps sp ∧ mg x = some (.ref f) ∧ PySem.W.keepIn K (.ref f) = true ∧ Binds K fd ps [] ∧ ps.length = n
theorem ve_call {x : Str} {p : Pos} {es : List Expr} {k n : Nat} {pre : List PyData → OT → Prop} (C : Cal X.prog X.w X.K X.mg X.base k x n (SpD X.K pre)) (hr : Room k X.A) (ha : VA X Γ (a :: es) ds) (hp : pre ds o) (hg : Gl X x := by rfl)
    (hdb : (x == ("__debug__" : Str)) = false := by decide) (he : starEach (a :: es) X.env = (false, eval a X.env) :: starEach es X.env := by rfl) (hpl : (backTo pos (starEach es X.env)).any (·.1) = false := by rfl) : VE X Γ (.Call (.Name x p) (a :: es) [] pos) o := fun G0 H0 G H σ I Q q => by
  obtain ⟨f, fd, ps, F, hm, hk, hb, _⟩ := C.ex
  refine ⟨_, pe_call F hr hg hm hk hb .nil pass0 (runA X (a :: es)) hdb he hpl, ha G0 H0 G H σ I _ fun vs G1 H1 g1 h1 I1 a1 => ?_⟩
  rw [List.append_nil]
  exact ⟨G1, ds, o, I1.i, a1, hp, fun v G2 H2 B b2 r2 f2 => q v G2 H2 (g1.trans b2.g) (h1.trans b2.h) (I1.growR b2 r2 f2)⟩
theorem ve_call0 {x : Str} {p : Pos} {k n : Nat} {pre : List PyData → OT → Prop} (C : Cal X.prog X.w X.K X.mg X.base k x n (SpD X.K pre)) (hr : Room k X.A) (hp : pre [] o) (hg : Gl X x := by rfl)
    (hdb : (x == ("__debug__" : Str)) = false := by decide) : VE X Γ (.Call (.Name x p) [] [] pos) o := fun G0 H0 G H σ I Q q => by
  obtain ⟨f, fd, ps, F, hm, hk, hb, _⟩ := C.ex
  refine ⟨_, pe_call0 F hr hg hm hk hb .nil pass0 hdb, ?_⟩
  show SpD X.K pre [] H Q E0
  exact ⟨G, [], o, I.i, .nil, hp, fun v G2 H2 B b2 r2 f2 => q v G2 H2 b2.g b2.h (I.growR b2 r2 f2)⟩

/-! ### built-ins upon data -/
/-- a built-in whose answer is flat -/
theorem ve_callB {x : Str} {p : Pos} {id : String} {es : List Expr} {r : List V → Hp → VK → Prop} (hc : CallR X (.builtin id) r) (ha : VA X Γ (a :: es) ds)
    (hr : ∀ G H vs Q, Same G H → Rps X.K G vs ds → (∀ v, Rp X.K G v d → Q v H) → r vs H Q) (hm : X.mg x = none) (hv : bootBuiltins x = some (.builtin id)) (hg : Gl X x := by rfl) (hn : x ≠ "__name__" := by decide) (hdb : (x == ("__debug__" : Str)) = false := by decide)
    (he : starEach (a :: es) X.env = (false, eval a X.env) :: starEach es X.env := by rfl) (hpl : (backTo pos (starEach es X.env)).any (·.1) = false := by rfl) : VD X Γ (.Call (.Name x p) (a :: es) [] pos) d := fun G0 H0 G H σ I Q q =>
  ⟨_, pe_callB hc hg hm hv (runA X (a :: es)) hn hdb he hpl, ha G0 H0 G H σ I _ fun vs G1 H1 g1 h1 I1 a1 => hr G1 H1 vs Q I1.i a1 fun v rv => q v G1 H1 g1 h1 (I1.leafR rv)⟩
theorem ve_callT {x : Str} {p : Pos} {T : String} {es : List Expr} {r : List V → Hp → VK → Prop} (hc : CallR X (.type T) r) (ha : VA X Γ (a :: es) ds)
    (hr : ∀ G H vs Q, Same G H → Rps X.K G vs ds → (∀ v, Rp X.K G v d → Q v H) → r vs H Q) (hm : X.mg x = none) (hv : bootBuiltins x = some (.type T)) (hg : Gl X x := by rfl) (hn : x ≠ "__name__" := by decide) (hdb : (x == ("__debug__" : Str)) = false := by decide)
    (he : starEach (a :: es) X.env = (false, eval a X.env) :: starEach es X.env := by rfl) (hpl : (backTo pos (starEach es X.env)).any (·.1) = false := by rfl) : VD X Γ (.Call (.Name x p) (a :: es) [] pos) d := fun G0 H0 G H σ I Q q =>
  ⟨_, pe_callTy hc hg hm hv (runA X (a :: es)) hn hdb he hpl, ha G0 H0 G H σ I _ fun vs G1 H1 g1 h1 I1 a1 => hr G1 H1 vs Q I1.i a1 fun v rv => q v G1 H1 g1 h1 (I1.leafR rv)⟩
theorem ve_abs {p : Pos} (ha : VD X Γ a (.int i)) (hm : X.mg "abs" = none) (hg : Gl X "abs" := by rfl) (he : starEach [a] X.env = [(false, eval a X.env)] := by rfl) : VD X Γ (.Call (.Name "abs" p) [a] [] pos) (.int (if i < 0 then -i else i)) :=
  ve_callB call_abs (va_cons ha va_nil he) (fun G H vs Q e h q => by
    cases h with
    | cons h1 h2 => cases h2; cases h1; exact ⟨i, rfl, q _ (.int _)⟩) hm (by decide +kernel) hg (he := he)
theorem ve_int1 {p : Pos} (ha : VD X Γ a (.int i)) (hm : X.mg "int" = none) (hg : Gl X "int" := by rfl) (he : starEach [a] X.env = [(false, eval a X.env)] := by rfl) : VD X Γ (.Call (.Name "int" p) [a] [] pos) (.int i) :=
  ve_callT call_int1 (va_cons ha va_nil he) (fun G H vs Q e h q => by
    cases h with
    | cons h1 h2 => cases h2; cases h1; exact .inl ⟨i, rfl, q _ (.int _)⟩) hm (by decide +kernel) hg (he := he)
theorem ve_intB {p : Pos} {z : Bool} (ha : VD X Γ a (.bool z)) (hm : X.mg "int" = none) (hg : Gl X "int" := by rfl) (he : starEach [a] X.env = [(false, eval a X.env)] := by rfl) : VD X Γ (.Call (.Name "int" p) [a] [] pos) (.int (if z then 1 else 0)) :=
  ve_callT call_int1 (va_cons ha va_nil he) (fun G H vs Q e h q => by
    cases h with
    | cons h1 h2 => cases h2; cases h1; exact .inr ⟨z, rfl, q _ (.int _)⟩) hm (by decide +kernel) hg (he := he)
theorem ve_max2 {p : Pos} (hc : X.calm = true) (ha : VD X Γ a (.int i)) (hb : VD X Γ b (.int j)) (hm : X.mg "max" = none) (hg : Gl X "max" := by rfl) (he : starEach [a, b] X.env = (false, eval a X.env) :: starEach [b] X.env := by rfl) (he2 : starEach [b] X.env = [(false, eval b X.env)] := by rfl)
    (hpl : (backTo pos (starEach [b] X.env)).any (·.1) = false := by rfl) : VD X Γ (.Call (.Name "max" p) [a, b] [] pos) (.int (if j > i then j else i)) :=
  ve_callB (call_max2 hc) (va_cons ha (va_cons hb va_nil he2) he) (fun G H vs Q e h q => by
    cases h with
    | cons h1 h2 =>
      cases h2 with
      | cons h3 h4 => cases h4; cases h1; cases h3; exact ⟨i, j, rfl, q _ (.int _)⟩) hm (by decide +kernel) hg (he := he) (hpl := hpl)
theorem ve_min2 {p : Pos} (hc : X.calm = true) (ha : VD X Γ a (.int i)) (hb : VD X Γ b (.int j)) (hm : X.mg "min" = none) (hg : Gl X "min" := by rfl) (he : starEach [a, b] X.env = (false, eval a X.env) :: starEach [b] X.env := by rfl) (he2 : starEach [b] X.env = [(false, eval b X.env)] := by rfl)
    (hpl : (backTo pos (starEach [b] X.env)).any (·.1) = false := by rfl) : VD X Γ (.Call (.Name "min" p) [a, b] [] pos) (.int (if j < i then j else i)) :=
  ve_callB (call_min2 hc) (va_cons ha (va_cons hb va_nil he2) he) (fun G H vs Q e h q => by
    cases h with
    | cons h1 h2 =>
      cases h2 with
      | cons h3 h4 => cases h4; cases h1; cases h3; exact ⟨i, j, rfl, q _ (.int _)⟩) hm (by decide +kernel) hg (he := he) (hpl := hpl)

/-! ### built-ins upon what is seen -/
/-- one argument that is seen -/
theorem run_view1 {P : V → Hp → Hp → Prop} {σ : Sl} {G H : Hp} {Q : List V → Hp → Prop} (hs : starEach [a] X.env = [(false, eval a X.env)] := by rfl) (h : RunE X a σ H fun v H1 => Q [v] H1) : RunA X [a] σ H Q :=
  ⟨_, pa_cons (runE X a) pa_nil hs, h⟩
theorem vv_call1 {x : Str} {p : Pos} {id : String} {r : List V → Hp → VK → Prop} {d' : PyData} (hc : CallR X (.builtin id) r) (ha : VV X Γ a d) (hr : ∀ H v Q, Rp X.K H v d → (∀ w, (∀ G, Rp X.K G w d') → Q w H) → r [v] H Q)
    (hm : X.mg x = none) (hv : bootBuiltins x = some (.builtin id)) (hg : Gl X x := by rfl) (hn : x ≠ "__name__" := by decide) (hdb : (x == ("__debug__" : Str)) = false := by decide)
    (he : starEach [a] X.env = [(false, eval a X.env)] := by rfl) : VD X Γ (.Call (.Name x p) [a] [] pos) d' := fun G0 H0 G H σ I Q q =>
  ⟨_, pe_callB hc hg hm hv (runA X [a]) hn hdb he (by rfl), run_view1 (P := fun _ _ _ => True) (G := G) he (ha G0 H0 G H σ I _ fun v G1 H1 g1 h1 I1 rv => hr H1 v Q rv fun w rw' => q w G1 H1 g1 h1 (I1.leafR (rw' G1)))⟩
theorem ve_len {p : Pos} (ha : VV X Γ a (.list ds)) (hm : X.mg "len" = none) (hg : Gl X "len" := by rfl) (he : starEach [a] X.env = [(false, eval a X.env)] := by rfl) : VD X Γ (.Call (.Name "len" p) [a] [] pos) (.int ds.length) :=
  vv_call1 call_len_seq ha (fun H v Q r q => by
    cases r with
    | lst h a => exact ⟨_, _, rfl, .inl (.of h), by rw [dps_len a]; exact q _ fun G => .int _⟩) hm (by decide +kernel) hg (he := he)
theorem ve_lenT {p : Pos} (ha : VV X Γ a (.tuple ds)) (hm : X.mg "len" = none) (hg : Gl X "len" := by rfl) (he : starEach [a] X.env = [(false, eval a X.env)] := by rfl) : VD X Γ (.Call (.Name "len" p) [a] [] pos) (.int ds.length) :=
  vv_call1 call_len_seq ha (fun H v Q r q => by
    cases r with
    | tup h a => exact ⟨_, _, rfl, .inr (.of h), by rw [dps_len a]; exact q _ fun G => .int _⟩) hm (by decide +kernel) hg (he := he)
theorem ve_sum {p : Pos} {ns : List Int} (hc : X.calm = true) (ha : VV X Γ a (.list (ns.map PyData.int))) (hm : X.mg "sum" = none) (hg : Gl X "sum" := by rfl) (he : starEach [a] X.env = [(false, eval a X.env)] := by rfl) : VD X Γ (.Call (.Name "sum" p) [a] [] pos) (.int ns.sum) :=
  vv_call1 (cr_sum hc) ha (fun H v Q r q => by
    cases r with
    | lst h a => exact ⟨_, ns, rfl, .of (by rw [← dps_ints_inv a]; exact h), q _ fun G => .int _⟩) hm (by decide +kernel) hg (he := he)
theorem ve_maxL {p : Pos} {ns : List Int} {m : Int} (hc : X.calm = true) (ha : VV X Γ a (.list (ns.map PyData.int))) (h0 : 0 < ns.length) (h1 : m ∈ ns) (h2 : ∀ y ∈ ns, y ≤ m) (hm : X.mg "max" = none) (hg : Gl X "max" := by rfl) (he : starEach [a] X.env = [(false, eval a X.env)] := by rfl) : VD X Γ (.Call (.Name "max" p) [a] [] pos) (.int m) :=
  vv_call1 (cr_max hc) ha (fun H v Q r q => by
    cases r with
    | lst h a => exact ⟨_, ns, rfl, .of (by rw [← dps_ints_inv a]; exact h), h0, fun k hk hle => by
        have e : k = m := Int.le_antisymm (h2 k hk) (hle m h1)
        rw [e]
        exact q _ fun G => .int _⟩) hm (by decide +kernel) hg (he := he)
theorem ve_minL {p : Pos} {ns : List Int} {m : Int} (hc : X.calm = true) (ha : VV X Γ a (.list (ns.map PyData.int))) (h0 : 0 < ns.length) (h1 : m ∈ ns) (h2 : ∀ y ∈ ns, m ≤ y) (hm : X.mg "min" = none) (hg : Gl X "min" := by rfl) (he : starEach [a] X.env = [(false, eval a X.env)] := by rfl) : VD X Γ (.Call (.Name "min" p) [a] [] pos) (.int m) :=
  vv_call1 (cr_min hc) ha (fun H v Q r q => by
    cases r with
    | lst h a => exact ⟨_, ns, rfl, .of (by rw [← dps_ints_inv a]; exact h), h0, fun k hk hle => by
        have e : k = m := Int.le_antisymm (hle m h1) (h2 k hk)
        rw [e]
        exact q _ fun G => .int _⟩) hm (by decide +kernel) hg (he := he)
/-- list(xs), tuple(xs): a new one -/
theorem ve_listOf {p : Pos} (ha : VL X Γ a ds) (hm : X.mg "list" = none) (hg : Gl X "list" := by rfl) (he : starEach [a] X.env = [(false, eval a X.env)] := by rfl) : VE X Γ (.Call (.Name "list" p) [a] [] pos) (.lst (lfs ds)) := fun G0 H0 G H σ I Q q =>
  ⟨_, pe_callTy call_list_of hg hm (by decide +kernel) (runA X [a]) (by decide) (by decide) he (by rfl), run_view1 (P := fun _ _ _ => True) (G := G) he (ha G0 H0 G H σ I _ fun p vs G1 H1 g1 h1 I1 hp a1 =>
    ⟨p, vs, rfl, .inl (.of hp), fun l hl => q _ G1 _ g1 (h1.trans (same_new hl)) (new_list I1 a1 hl)⟩)⟩
theorem ve_listOfT {p : Pos} (ha : VT X Γ a ds) (hm : X.mg "list" = none) (hg : Gl X "list" := by rfl) (he : starEach [a] X.env = [(false, eval a X.env)] := by rfl) : VE X Γ (.Call (.Name "list" p) [a] [] pos) (.lst (lfs ds)) := fun G0 H0 G H σ I Q q =>
  ⟨_, pe_callTy call_list_of hg hm (by decide +kernel) (runA X [a]) (by decide) (by decide) he (by rfl), run_view1 (P := fun _ _ _ => True) (G := G) he (ha G0 H0 G H σ I _ fun p vs G1 H1 g1 h1 I1 hp a1 =>
    ⟨p, vs, rfl, .inr (.of hp), fun l hl => q _ G1 _ g1 (h1.trans (same_new hl)) (new_list I1 a1 hl)⟩)⟩
theorem ve_tupOf {p : Pos} (ha : VL X Γ a ds) (hm : X.mg "tuple" = none) (hg : Gl X "tuple" := by rfl) (he : starEach [a] X.env = [(false, eval a X.env)] := by rfl) : VE X Γ (.Call (.Name "tuple" p) [a] [] pos) (.tup (lfs ds)) := fun G0 H0 G H σ I Q q =>
  ⟨_, pe_callTy call_tuple_of hg hm (by decide +kernel) (runA X [a]) (by decide) (by decide) he (by rfl), run_view1 (P := fun _ _ _ => True) (G := G) he (ha G0 H0 G H σ I _ fun p vs G1 H1 g1 h1 I1 hp a1 =>
    ⟨p, vs, rfl, .inl ⟨.of hp, fun l hl => q _ G1 _ g1 (h1.trans (same_new hl)) (new_tup I1 a1 hl)⟩⟩)⟩

/-! ### subscripts, slices, + and * of lists -/
theorem atI_rps {K : Fg} {H : Hp} {vs : List V} (a : Rps K H vs ds) (h : atI ds i = some d) : ∃ v, atI vs i = some v ∧ Rp K H v d := by
  unfold atI at h ⊢
  rw [dps_len a]
  cases e : ixN ds.length i with
  | none => rw [e] at h; cases h
  | some j =>
    rw [e] at h
    exact dps_get a h
/-- xs[i], an item that is anchored -/
theorem ve_ix (ha : VL X Γ a ds) (hb : VD X Γ b (.int i)) (h : atI ds i = some d) (hs : PlainIx b := by exact fun _ _ => rfl) : VD X Γ (.Subscript a b pos) d := fun G0 H0 G H σ I Q q =>
  ⟨_, pe_ix ix_list (runE X a) (runE X b) hs, ha G0 H0 G H σ I _ fun p vs G1 H1 g1 h1 I1 hp a1 => hb G0 H0 G1 H1 σ I1 _ fun w G2 H2 g2 h2 r2 => by
    have e2 := leaf_inv r2
    cases e2
    obtain ⟨v, hv, rv⟩ := atI_rps a1 h
    exact ⟨p, vs, i, v, rfl, rfl, .of (h2 _ _ hp), hv, q v G2 H2 (g1.trans g2) (h1.trans h2) (r2.s.leafR (dp_mono g2 rv))⟩⟩
theorem ve_ixT (ha : VT X Γ a ds) (hb : VD X Γ b (.int i)) (h : atI ds i = some d) (hs : PlainIx b := by exact fun _ _ => rfl) : VD X Γ (.Subscript a b pos) d := fun G0 H0 G H σ I Q q =>
  ⟨_, pe_ix ix_tup (runE X a) (runE X b) hs, ha G0 H0 G H σ I _ fun p vs G1 H1 g1 h1 I1 hp a1 => hb G0 H0 G1 H1 σ I1 _ fun w G2 H2 g2 h2 r2 => by
    have e2 := leaf_inv r2
    cases e2
    obtain ⟨v, hv, rv⟩ := atI_rps a1 h
    exact ⟨p, vs, i, v, rfl, rfl, .of (h2 _ _ hp), hv, q v G2 H2 (g1.trans g2) (h1.trans h2) (r2.s.leafR (dp_mono g2 rv))⟩⟩
/-- .. seen -/
theorem vv_ix (ha : VV X Γ a (.list ds)) (hb : VD X Γ b (.int i)) (h : atI ds i = some d) (hs : PlainIx b := by exact fun _ _ => rfl) : VV X Γ (.Subscript a b pos) d := fun G0 H0 G H σ I Q q =>
  ⟨_, pe_ix ix_list (runE X a) (runE X b) hs, ha G0 H0 G H σ I _ fun v G1 H1 g1 h1 I1 r1 => hb G0 H0 G1 H1 σ I1 _ fun w G2 H2 g2 h2 r2 => by
    have e2 := leaf_inv r2
    cases e2
    cases r1 with
    | lst hp a1 =>
      obtain ⟨v, hv, rv⟩ := atI_rps a1 h
      exact ⟨_, _, i, v, rfl, rfl, .of (h2 _ _ hp), hv, q v G2 H2 (g1.trans g2) (h1.trans h2) r2.s (dp_mono h2 rv)⟩⟩
theorem vv_ixT (ha : VV X Γ a (.tuple ds)) (hb : VD X Γ b (.int i)) (h : atI ds i = some d) (hs : PlainIx b := by exact fun _ _ => rfl) : VV X Γ (.Subscript a b pos) d := fun G0 H0 G H σ I Q q =>
  ⟨_, pe_ix ix_tup (runE X a) (runE X b) hs, ha G0 H0 G H σ I _ fun v G1 H1 g1 h1 I1 r1 => hb G0 H0 G1 H1 σ I1 _ fun w G2 H2 g2 h2 r2 => by
    have e2 := leaf_inv r2
    cases e2
    cases r1 with
    | tup hp a1 =>
      obtain ⟨v, hv, rv⟩ := atI_rps a1 h
      exact ⟨_, _, i, v, rfl, rfl, .of (h2 _ _ hp), hv, q v G2 H2 (g1.trans g2) (h1.trans h2) r2.s (dp_mono h2 rv)⟩⟩
theorem vp_none : VP X Γ none none := fun G0 H0 G H σ I Q q => ⟨_, po_none, q G H (Same.refl _) (Same.refl _) I⟩
theorem vp_some (h : VD X Γ e (.int i)) : VP X Γ (some e) (some i) := fun G0 H0 G H σ I Q q => ⟨_, po_some (runE X e), h G0 H0 G H σ I _ fun v G1 H1 g1 h1 r1 => by
  have e1 := leaf_inv r1
  cases e1
  exact ⟨i, rfl, q G1 H1 g1 h1 r1.s⟩⟩
/-- the items of xs[lo:hi] -/
def cutD {α : Type} (xs : List α) (lo hi : Option Int) : List α := (xs.drop (HT.sIx xs.length 0 lo)).take (HT.sIx xs.length xs.length hi - HT.sIx xs.length 0 lo)
theorem cut_rps {K : Fg} {H : Hp} {vs : List V} (a : Rps K H vs ds) (lo hi : Option Int) : Rps K H (cutV vs lo hi) (cutD ds lo hi) := by
  unfold cutV cutD
  rw [dps_len a]
  exact dps_take _ (dps_drop _ a)
theorem ve_slice {lo hi : Option Expr} {l u : Option Int} {p2 : Pos} (ha : VL X Γ a ds) (hl : VP X Γ lo l) (hu : VP X Γ hi u) : VE X Γ (.Subscript a (.Slice lo hi none p2) pos) (.lst (lfs (cutD ds l u))) := fun G0 H0 G H σ I Q q =>
  ⟨_, pe_slice sl_list (runE X a) (runO X lo) (runO X hi), ha G0 H0 G H σ I _ fun p vs G1 H1 g1 h1 I1 hp a1 => hl G0 H0 G1 H1 σ I1 _ fun G2 H2 g2 h2 I2 => hu G0 H0 G2 H2 σ I2 _ fun G3 H3 g3 h3 I3 =>
    ⟨p, vs, rfl, .of (h3 _ _ (h2 _ _ hp)), fun l hl => q _ G3 _ ((g1.trans g2).trans g3) (((h1.trans h2).trans h3).trans (same_new hl)) (new_list I3 (cut_rps (dps_mono (g2.trans g3) a1) _ _) hl)⟩⟩
theorem ve_revL {k : Nat} {p1 p2 p3 : Pos} (ha : VL X Γ a ds) : VE X Γ (.Subscript a (.Slice none none (some (.UnaryOp .USub (.Constant (.int 1) k p1) p2)) p3) pos) (.lst (lfs ds.reverse)) := fun G0 H0 G H σ I Q q =>
  ⟨_, pe_revL (runE X a), ha G0 H0 G H σ I _ fun p vs G1 H1 g1 h1 I1 hp a1 => ⟨p, vs, rfl, .of hp, fun l hl => q _ G1 _ g1 (h1.trans (same_new hl)) (new_list I1 (dps_rev a1) hl)⟩⟩
theorem ve_cat {es : List PyData} (ha : VL X Γ a ds) (hb : VL X Γ b es) (hz : ds.length + es.length ≤ 1000000) : VE X Γ (.BinOp a .Add b pos) (.lst (lfs (ds ++ es))) := fun G0 H0 G H σ I Q q =>
  ⟨_, pe_op op_cat (runE X a) (runE X b), ha G0 H0 G H σ I _ fun p vs G1 H1 g1 h1 I1 hp a1 => hb G0 H0 G1 H1 σ I1 _ fun p' vs' G2 H2 g2 h2 I2 hp' a2 =>
    ⟨p, p', vs, vs', rfl, rfl, h2 _ _ hp, hp', szle (by rw [dps_len a1, dps_len a2]; exact hz), fun l hl => q _ G2 _ (g1.trans g2) ((h1.trans h2).trans (same_new hl)) (new_list I2 (dps_app (dps_mono g2 a1) a2) hl)⟩⟩
theorem ve_rep (ha : VL X Γ a ds) (hb : VD X Γ b (.int i)) (h0 : i ≤ 1000000) (h1 : -1000000 ≤ i) (hz : ds.length * i.toNat ≤ 1000000) : VE X Γ (.BinOp a .Mult b pos) (.lst (lfs (List.replicate i.toNat ds).flatten)) := fun G0 H0 G H σ I Q q =>
  ⟨_, pe_op op_rep (runE X a) (runE X b), ha G0 H0 G H σ I _ fun p vs G1 H1 g1 h1 I1 hp a1 => hb G0 H0 G1 H1 σ I1 _ fun w G2 H2 g2 h2 r2 => by
    have e2 := leaf_inv r2
    cases e2
    exact ⟨p, i, vs, rfl, rfl, h2 _ _ hp, by omega, by omega, szle (by rw [dps_len a1]; exact hz), fun l hl => q _ G2 _ (g1.trans g2) ((h1.trans h2).trans (same_new hl)) (new_list r2.s (dps_rep _ (dps_mono g2 a1)) hl)⟩⟩
/-- a if t else b -/
theorem vm_if {k : Bool} (hc : VB X Γ c k) (h1 : k = true → VM X Γ a o Γ') (h2 : k = false → VM X Γ b o Γ') : VM X Γ (.IfExp c a b pos) o Γ' := fun G0 H0 G H σ I Q q =>
  ⟨_, pe_ifExp (runT X c) (runE X a) (runE X b), hc G0 H0 G H σ I _ fun G1 H1 g1 h1' I1 => by
    cases k with
    | true => exact iteT (h1 rfl G0 H0 G1 H1 σ I1 Q fun v G2 H2 g2 h2 r => q v G2 H2 (g1.trans g2) (h1'.trans h2) r)
    | false => exact iteF (h2 rfl G0 H0 G1 H1 σ I1 Q fun v G2 H2 g2 h2 r => q v G2 H2 (g1.trans g2) (h1'.trans h2) r)⟩

/-! ### isinstance -/
def tyD : PyData → String
  | .none => "NoneType"
  | .bool _ => "bool"
  | .int _ => "int"
  | .str _ => "str"
  | .list _ => "list"
  | .tuple _ => "tuple"
  | .dict _ => "dict"
theorem tyX_of {K : Fg} {H : Hp} {v : V} (h : Rp K H v d) : TyX K H v (.type (tyD d)) := by
  cases h with
  | non => exact .base .non
  | bl b => exact .base (.bl b)
  | int i => exact .base (.int i)
  | str x => exact .base (.str x)
  | lst h _ => exact .base (.lst h)
  | tup h _ => exact .base (.tup h)
def isInt : PyData → Bool
  | .int _ | .bool _ => true
  | _ => false
def isBool : PyData → Bool
  | .bool _ => true
  | _ => false
def isStr : PyData → Bool
  | .str _ => true
  | _ => false
def isList : PyData → Bool
  | .list _ => true
  | _ => false
def isTup : PyData → Bool
  | .tuple _ => true
  | _ => false
theorem kit_int : ∀ d : PyData, kitB (tyD d) "int" = some (isInt d)
  | .none => by show kitB "NoneType" "int" = some false; decide +kernel
  | .bool _ => by show kitB "bool" "int" = some true; decide +kernel
  | .int _ => by show kitB "int" "int" = some true; decide +kernel
  | .str _ => by show kitB "str" "int" = some false; decide +kernel
  | .list _ => by show kitB "list" "int" = some false; decide +kernel
  | .tuple _ => by show kitB "tuple" "int" = some false; decide +kernel
  | .dict _ => by show kitB "dict" "int" = some false; decide +kernel
theorem kit_bool : ∀ d : PyData, kitB (tyD d) "bool" = some (isBool d)
  | .none => by show kitB "NoneType" "bool" = some false; decide +kernel
  | .bool _ => by show kitB "bool" "bool" = some true; decide +kernel
  | .int _ => by show kitB "int" "bool" = some false; decide +kernel
  | .str _ => by show kitB "str" "bool" = some false; decide +kernel
  | .list _ => by show kitB "list" "bool" = some false; decide +kernel
  | .tuple _ => by show kitB "tuple" "bool" = some false; decide +kernel
  | .dict _ => by show kitB "dict" "bool" = some false; decide +kernel
theorem kit_str : ∀ d : PyData, kitB (tyD d) "str" = some (isStr d)
  | .none => by show kitB "NoneType" "str" = some false; decide +kernel
  | .bool _ => by show kitB "bool" "str" = some false; decide +kernel
  | .int _ => by show kitB "int" "str" = some false; decide +kernel
  | .str _ => by show kitB "str" "str" = some true; decide +kernel
  | .list _ => by show kitB "list" "str" = some false; decide +kernel
  | .tuple _ => by show kitB "tuple" "str" = some false; decide +kernel
  | .dict _ => by show kitB "dict" "str" = some false; decide +kernel
theorem kit_list : ∀ d : PyData, kitB (tyD d) "list" = some (isList d)
  | .none => by show kitB "NoneType" "list" = some false; decide +kernel
  | .bool _ => by show kitB "bool" "list" = some false; decide +kernel
  | .int _ => by show kitB "int" "list" = some false; decide +kernel
  | .str _ => by show kitB "str" "list" = some false; decide +kernel
  | .list _ => by show kitB "list" "list" = some true; decide +kernel
  | .tuple _ => by show kitB "tuple" "list" = some false; decide +kernel
  | .dict _ => by show kitB "dict" "list" = some false; decide +kernel
theorem kit_tup : ∀ d : PyData, kitB (tyD d) "tuple" = some (isTup d)
  | .none => by show kitB "NoneType" "tuple" = some false; decide +kernel
  | .bool _ => by show kitB "bool" "tuple" = some false; decide +kernel
  | .int _ => by show kitB "int" "tuple" = some false; decide +kernel
  | .str _ => by show kitB "str" "tuple" = some false; decide +kernel
  | .list _ => by show kitB "list" "tuple" = some false; decide +kernel
  | .tuple _ => by show kitB "tuple" "tuple" = some true; decide +kernel
  | .dict _ => by show kitB "dict" "tuple" = some false; decide +kernel
theorem ve_isi {x T : String} {p p2 : Pos} {r : Bool} (ha : VV X Γ a d) (hT : kitB (tyD d) T = some r) (hm : X.mg "isinstance" = none) (hm2 : X.mg x = none) (hb : bootBuiltins x = some (.type T)) (hg : Gl X "isinstance" := by rfl) (hg2 : Gl X x := by rfl)
    (hn : (x : Str) ≠ "__name__" := by decide) (hdb : ((x : Str) == ("__debug__" : Str)) = false := by decide)
    (he : starEach [a, .Name x p2] X.env = (false, eval a X.env) :: starEach [.Name x p2] X.env := by rfl) (he2 : starEach [.Name x p2] X.env = [(false, eval (.Name x p2) X.env)] := by rfl) (hpl : (backTo pos (starEach [.Name x p2] X.env)).any (·.1) = false := by rfl) :
    VD X Γ (.Call (.Name "isinstance" p) [a, .Name x p2] [] pos) (.bool r) := fun G0 H0 G H σ I Q q =>
  ⟨_, pe_callB call_isi hg hm (by decide +kernel) (pa_cons (runE X a) (pa_cons (pe_bltn (v := .ty T) hg2 hm2 hb rfl hn hdb) pa_nil he2) he) (by decide) (by decide) he hpl, ha G0 H0 G H σ I _ fun v G1 H1 g1 h1 I1 r1 =>
    ⟨v, .ty T, .type (tyD d), .type T, r, rfl, .ty T, tyX_of r1, kit_ty hT, q _ G1 H1 g1 h1 (I1.leafR (.bl _))⟩⟩
variable {p p2 : Pos}
theorem vi_int (ha : VV X Γ a d) (hm : X.mg "isinstance" = none) (hm2 : X.mg "int" = none) (hg : Gl X "isinstance" := by rfl) (hg2 : Gl X "int" := by rfl) (he : starEach [a, .Name "int" p2] X.env = (false, eval a X.env) :: starEach [.Name "int" p2] X.env := by rfl) (he2 : starEach [.Name "int" p2] X.env = [(false, eval (.Name "int" p2) X.env)] := by rfl) (hpl : (backTo pos (starEach [.Name "int" p2] X.env)).any (·.1) = false := by rfl) :
    VD X Γ (.Call (.Name "isinstance" p) [a, .Name "int" p2] [] pos) (.bool (isInt d)) := ve_isi (x := "int") ha (kit_int d) hm hm2 (by decide +kernel) hg hg2 (by decide) (by decide) he he2 hpl
theorem vi_bool (ha : VV X Γ a d) (hm : X.mg "isinstance" = none) (hm2 : X.mg "bool" = none) (hg : Gl X "isinstance" := by rfl) (hg2 : Gl X "bool" := by rfl) (he : starEach [a, .Name "bool" p2] X.env = (false, eval a X.env) :: starEach [.Name "bool" p2] X.env := by rfl) (he2 : starEach [.Name "bool" p2] X.env = [(false, eval (.Name "bool" p2) X.env)] := by rfl) (hpl : (backTo pos (starEach [.Name "bool" p2] X.env)).any (·.1) = false := by rfl) :
    VD X Γ (.Call (.Name "isinstance" p) [a, .Name "bool" p2] [] pos) (.bool (isBool d)) := ve_isi (x := "bool") ha (kit_bool d) hm hm2 (by decide +kernel) hg hg2 (by decide) (by decide) he he2 hpl
theorem vi_str (ha : VV X Γ a d) (hm : X.mg "isinstance" = none) (hm2 : X.mg "str" = none) (hg : Gl X "isinstance" := by rfl) (hg2 : Gl X "str" := by rfl) (he : starEach [a, .Name "str" p2] X.env = (false, eval a X.env) :: starEach [.Name "str" p2] X.env := by rfl) (he2 : starEach [.Name "str" p2] X.env = [(false, eval (.Name "str" p2) X.env)] := by rfl) (hpl : (backTo pos (starEach [.Name "str" p2] X.env)).any (·.1) = false := by rfl) :
    VD X Γ (.Call (.Name "isinstance" p) [a, .Name "str" p2] [] pos) (.bool (isStr d)) := ve_isi (x := "str") ha (kit_str d) hm hm2 (by decide +kernel) hg hg2 (by decide) (by decide) he he2 hpl
theorem vi_lst (ha : VV X Γ a d) (hm : X.mg "isinstance" = none) (hm2 : X.mg "list" = none) (hg : Gl X "isinstance" := by rfl) (hg2 : Gl X "list" := by rfl) (he : starEach [a, .Name "list" p2] X.env = (false, eval a X.env) :: starEach [.Name "list" p2] X.env := by rfl) (he2 : starEach [.Name "list" p2] X.env = [(false, eval (.Name "list" p2) X.env)] := by rfl) (hpl : (backTo pos (starEach [.Name "list" p2] X.env)).any (·.1) = false := by rfl) :
    VD X Γ (.Call (.Name "isinstance" p) [a, .Name "list" p2] [] pos) (.bool (isList d)) := ve_isi (x := "list") ha (kit_list d) hm hm2 (by decide +kernel) hg hg2 (by decide) (by decide) he he2 hpl
theorem vi_tuple (ha : VV X Γ a d) (hm : X.mg "isinstance" = none) (hm2 : X.mg "tuple" = none) (hg : Gl X "isinstance" := by rfl) (hg2 : Gl X "tuple" := by rfl) (he : starEach [a, .Name "tuple" p2] X.env = (false, eval a X.env) :: starEach [.Name "tuple" p2] X.env := by rfl) (he2 : starEach [.Name "tuple" p2] X.env = [(false, eval (.Name "tuple" p2) X.env)] := by rfl) (hpl : (backTo pos (starEach [.Name "tuple" p2] X.env)).any (·.1) = false := by rfl) :
    VD X Γ (.Call (.Name "isinstance" p) [a, .Name "tuple" p2] [] pos) (.bool (isTup d)) := ve_isi (x := "tuple") ha (kit_tup d) hm hm2 (by decide +kernel) hg hg2 (by decide) (by decide) he he2 hpl
end
end V3

namespace V3
open PySem PySem.Spec PyProof.Rows L2

/-! ### statements -/
structure Dn where
  nx : Env' → Prop
  rt : OT → Prop
  bk : Env' → Prop := fun _ => False
  ct : Env' → Prop := fun _ => False
structure Lift (K : Fg) (G0 H0 : Hp) (D : Dn) (D0 : Ends) : Prop where
  nx : ∀ {Γ : Env'} {G H : Hp} {σ : Sl}, D.nx Γ → InvS K G0 H0 G H σ Γ → D0.nx σ H
  bk : ∀ {Γ : Env'} {G H : Hp} {σ : Sl}, D.bk Γ → InvS K G0 H0 G H σ Γ → D0.bk σ H
  ct : ∀ {Γ : Env'} {G H : Hp} {σ : Sl}, D.ct Γ → InvS K G0 H0 G H σ Γ → D0.ct σ H
  rt : ∀ {o : OT} {v : V} {G H : Hp} {B : List Addr}, D.rt o → Base G0 H0 G H → RepO K G H o v B → (∀ a ∈ B, H0 a = none) → D0.rt v H
def VS (X : Cx) (st : Stmt) (D : Dn) (Γ : Env') : Prop := ∀ (G0 H0 G H : Hp) (σ : Sl), InvS X.K G0 H0 G H σ Γ → ∀ D0 : Ends, Lift X.K G0 H0 D D0 → RunS X st D0 σ H
def VK' (X : Cx) (sts : List Stmt) (D : Dn) (Γ : Env') : Prop := ∀ (G0 H0 G H : Hp) (σ : Sl), InvS X.K G0 H0 G H σ Γ → ∀ D0 : Ends, Lift X.K G0 H0 D D0 → RunB X sts D0 σ H

theorem InvR.put {K : Fg} {G0 H0 G H : Hp} {σ : Sl} {Γ : Env'} {o : OT} {v : V} (h : InvR K G0 H0 G H σ Γ o v) (k : Nat) : InvS K G0 H0 G H (σ.set k (some v)) (Γ.set k (some o)) := by
  obtain ⟨b, A, B, s, fa, r, fb, d⟩ := h
  obtain ⟨C, h1, h2⟩ := s.put (i := k) r d
  exact ⟨b, C, h1, fun a ha => (h2 a ha).elim (fa a) (fb a)⟩
theorem InvS.puts {K : Fg} {G0 H0 G H : Hp} {σ : Sl} {Γ : Env'} {js : List Nat} {vs : List V} {ds : List PyData} (h : InvS K G0 H0 G H σ Γ) (a : Rps K G vs ds) : InvS K G0 H0 G H (V3.puts σ js vs) (putsG Γ js ds) := by
  obtain ⟨b, A, s, fa⟩ := h
  obtain ⟨C, h1, h2⟩ := s.puts (js := js) a
  exact ⟨b, C, h1, fun a ha => fa a (h2 a ha)⟩
theorem InvS.freeze {K : Fg} {G0 H0 G H : Hp} {σ : Sl} {Γ : Env'} {o : OT} {k : Nat} (h : InvS K G0 H0 G H σ Γ) (hs : Γ[k]? = some (some o)) (p : o.plain = true) : ∃ G', Same G G' ∧ InvS K G0 H0 G' H σ (Γ.set k (some (.leaf o.data))) := by
  obtain ⟨b, A, s, fa⟩ := h
  obtain ⟨v, B, C, h1, r, s', d, hB, hC⟩ := s.take hs
  obtain ⟨G', e, b', A', B', s2, fa2, r2, fb2, d2⟩ := InvR.freeze (o := o) (v := v) (Γ := Γ.set k none) ⟨b, C, B, s', fun a ha => fa a (hC a ha), r, fun a ha => fa a (hB a ha), d⟩ p
  obtain ⟨C2, h3, h4⟩ := s2.swap h1 r2 d2
  exact ⟨G', e, b', C2, h3, fun a ha => (h4 a ha).elim (fa2 a) (fb2 a)⟩

/-- another base: all that stands now, but what the slots own -/
theorem InvS.rebase {K : Fg} {G0 H0 G H : Hp} {σ : Sl} {Γ : Env'} (h : InvS K G0 H0 G H σ Γ) : ∃ H1, InvS K G H1 G H σ Γ ∧ (∀ a, H1 a = none → H0 a = none) ∧ ∀ G' H', Base G H1 G' H' → Base G0 H0 G' H' := by
  obtain ⟨b, A, s, fa⟩ := h
  have le : Same H0 (fun a => if a ∈ A then none else H a) := fun a o e => by
    show (if a ∈ A then none else H a) = some o
    by_cases hA : a ∈ A
    · rw [fa a hA] at e; cases e
    · rw [if_neg hA]; exact b.h a o e
  refine ⟨fun a => if a ∈ A then none else H a, ⟨⟨Same.refl _, fun a o e => ?_, b.i, fun a ha => rfl⟩, A, s, fun a ha => if_pos ha⟩, fun a ha => le.free ha, fun G' H' b' => ⟨b.g.trans b'.g, le.trans b'.h, b'.i, fun a ha => ?_⟩⟩
  · have e' : (if a ∈ A then none else H a) = some o := e
    by_cases hA : a ∈ A
    · rw [if_pos hA] at e'; cases e'
    · rw [if_neg hA] at e'; exact e'
  · rw [b'.n a fun z => ha (le.free z)]
    exact b.n a ha

section
variable {X : Cx} {Γ Γ' Γ1 Γ2 : Env'} {e a b c : Expr} {pos : Pos} {i j : Int} {d : PyData} {ds : List PyData} {o : OT} {os : List OT} {D : Dn} {st : Stmt} {rest sts : List Stmt}
theorem vk_nil (h : D.nx Γ) : VK' X [] D Γ := fun G0 H0 G H σ I D0 L => ⟨_, pss_nil, L.nx h I⟩
theorem vk_cons (h : VS X st { D with nx := fun Γ' => VK' X rest D Γ' } Γ) : VK' X (st :: rest) D Γ := fun G0 H0 G H σ I D0 L =>
  ⟨_, pss_cons (runS X st) (runB X rest), h G0 H0 G H σ I { D0 with nx := RunB X rest D0 } ⟨fun k I' => k G0 H0 _ _ _ I' D0 L, L.bk, L.ct, L.rt⟩⟩
/-- a list of one's own, anchored from here on -/
theorem vk_freeze (k : Nat) (hs : Γ[k]? = some (some o)) (p : o.plain = true) (h : VK' X sts D (Γ.set k (some (.leaf o.data)))) : VK' X sts D Γ := fun G0 H0 G H σ I D0 L => by
  obtain ⟨G', e, I'⟩ := I.freeze hs p
  exact h G0 H0 G' H σ I' D0 L
theorem vk_frz (k : Nat) (hs : Γ[k]? = some (some (.lst (lfs ds)))) (h : VK' X sts D (Γ.set k (some (.leaf (.list ds))))) : VK' X sts D Γ :=
  vk_freeze k hs (plains_lfs ds) (by rw [show (OT.lst (lfs ds)).data = .list ds by show PyData.list (OT.datas (lfs ds)) = _; rw [datas_lfs]]; exact h)
theorem vk_is (h : VK' X sts D Γ) (e' : Γ = Γ') : VK' X sts D Γ' := e' ▸ h
theorem vs_set {x : Str} {p : Pos} (k : Nat) (he : VM X Γ e o Γ1) (h : D.nx (Γ1.set k (some o))) (hN : X.N.Nodup) (hi : X.N[k]? = some x := by rfl) (hx : Loc X.env.scope x := by first | exact Or.inl rfl | exact Or.inr rfl)
    (hsw : swapsWith e (some (.Name x p)) pos.line X.env = pure false := by rfl) (hf : X.fn x = true ∨ X.env.scope.names.lookup x = some .local := by first | exact .inl rfl | exact .inr rfl) : VS X (.Assign [.Name x p] e pos) D Γ := fun G0 H0 G H σ I D0 L =>
  ⟨_, ps_set hN hi hx (runE X e) hsw hf, he G0 H0 G H σ I _ fun v G1 H1 g1 h1 r => L.nx h (r.put k)⟩
theorem vs_ret (he : VM X Γ e o Γ1) (h : D.rt o) : VS X (.Return (some e) pos) D Γ := fun G0 H0 G H σ I D0 L =>
  ⟨_, ps_ret (runE X e), he G0 H0 G H σ I _ fun v G1 H1 g1 h1 ⟨b, A, B, s, fa, r, fb, d⟩ => L.rt h b r fb⟩
theorem vs_retN (h : D.rt (.leaf .none)) : VS X (.Return none pos) D Γ := fun G0 H0 G H σ I D0 L =>
  ⟨_, ps_retN, L.rt h I.1 (.leaf .non) (fun _ h => nomatch h)⟩
theorem vs_if {sa sb : List Stmt} {k : Bool} (hc : VB X Γ c k) (h1 : k = true → VK' X sa D Γ) (h2 : k = false → VK' X sb D Γ) : VS X (.If c sa sb pos) D Γ := fun G0 H0 G H σ I D0 L =>
  ⟨_, ps_if (runT X c) (runB X sa) (runB X sb), hc G0 H0 G H σ I _ fun G1 H1 g1 hh1 I1 => by
    cases k with
    | true => exact iteT (h1 rfl G0 H0 G1 H1 σ I1 D0 L)
    | false => exact iteF (h2 rfl G0 H0 G1 H1 σ I1 D0 L)⟩
theorem vs_pass (h : D.nx Γ) : VS X (.Pass pos) D Γ := fun G0 H0 G H σ I D0 L => ⟨_, ps_pass, L.nx h I⟩
theorem vs_break (h : D.bk Γ) : VS X (.Break pos) D Γ := fun G0 H0 G H σ I D0 L => ⟨_, ps_break, L.bk h I⟩
/-- a block that is never reached -/
theorem vk_never (h : False) : VK' X sts D Γ := h.elim

/-! ### targets -/
def RunG (X : Cx) (tg : Expr) : TG := fun v σ H Q => ∃ t, PG X tg t ∧ t v σ H Q
theorem runG (X : Cx) (tg : Expr) : PG X tg (RunG X tg) := ⟨fun pins s σ H v u Q I r ⟨_, p, h⟩ => p.run pins s σ H v u Q I r h⟩
/-- the target takes d's parts into the slots js -/
def VG (X : Cx) (tg : Expr) (js : List Nat) (split : PyData → Option (List PyData)) : Prop := ∀ (G H : Hp) (σ : Sl) (v : V) (d : PyData) (parts : List PyData), Same G H → Rp X.K G v d → split d = some parts →
  ∃ vs, Rps X.K G vs parts ∧ ∀ Q : Sl → Hp → Prop, Q (puts σ js vs) H → RunG X tg v σ H Q
def sp1 : PyData → Option (List PyData) := fun d => some [d]
def spT (n : Nat) : PyData → Option (List PyData)
  | .tuple ds => if ds.length = n then some ds else none
  | _ => none
theorem vg_name {x : Str} (k : Nat) (hN : X.N.Nodup) (hi : X.N[k]? = some x := by rfl) (hx : Loc X.env.scope x := by first | exact Or.inl rfl | exact Or.inr rfl) (hf : X.fn x = true ∨ X.env.scope.names.lookup x = some .local := by first | exact .inl rfl | exact .inr rfl) : VG X (.Name x pos) [k] sp1 :=
  fun G H σ v d parts e r h => by
    cases h
    exact ⟨[v], .cons r .nil, fun Q q => ⟨_, pg_name hN hi hx hf, q⟩⟩
/-- the names of a tuple's target -/
inductive NamesAt (X : Cx) : List Expr → List Nat → Prop
  | nil : NamesAt X [] []
  | cons {x : Str} {p : Pos} {k : Nat} {es : List Expr} {ks : List Nat} : X.N[k]? = some x → Loc X.env.scope x → (X.fn x = true ∨ X.env.scope.names.lookup x = some .local) → ((assignEach (.Name x p :: es) X.env).map (·.2) = assign (.Name x p) X.env :: (assignEach es X.env).map (·.2)) → NamesAt X es ks → NamesAt X (.Name x p :: es) (k :: ks)
theorem NamesAt.run (hN : X.N.Nodup) : ∀ {es : List Expr} {ks : List Nat}, NamesAt X es ks → ∃ t, PGs X es t ∧ ∀ (vs : List V) (σ : Sl) (H : Hp) (Q : Sl → Hp → Prop), vs.length = ks.length → Q (puts σ ks vs) H → t vs σ H Q
  | _, _, .nil => ⟨_, pgs_nil, fun vs σ H Q hl q => by
      cases vs with
      | nil => exact ⟨rfl, q⟩
      | cons _ _ => simp at hl⟩
  | _, _, .cons hi hx hf hs n => by
    obtain ⟨t, pt, ht⟩ := n.run hN
    refine ⟨_, pgs_cons (pg_name hN hi hx hf) pt hs, fun vs σ H Q hl q => ?_⟩
    cases vs with
    | nil => simp at hl
    | cons v vs => exact ⟨v, vs, rfl, ht vs _ H Q (by simpa using hl) q⟩
theorem NamesAt.len : ∀ {es : List Expr} {ks : List Nat}, NamesAt X es ks → es.length = ks.length
  | _, _, .nil => rfl
  | _, _, .cons _ _ _ _ n => by simp [n.len]
theorem vg_tup {es : List Expr} {ks : List Nat} {k : Nat} (hc : X.calm = true) (hN : X.N.Nodup) (n : NamesAt X es ks) (hn : (assignEach es X.env).length = ks.length := by rfl) (hst : (assignEach es X.env).findIdx? (·.1) = none := by rfl) : VG X (.Tuple es k pos) ks (spT ks.length) :=
  fun G H σ v d parts e r h => by
    cases r with
    | tup hp a =>
      rename_i p vs ds
      have h' : (if ds.length = ks.length then some ds else none) = some parts := h
      by_cases hl : ds.length = ks.length
      · rw [if_pos hl] at h'; cases h'
        obtain ⟨t, pt, ht⟩ := n.run hN
        exact ⟨vs, a, fun Q q => ⟨_, pg_tup hc pt hn hst, _, vs, rfl, .of (e _ _ hp), by rw [dps_len a]; exact hl, ht vs σ H Q (by rw [dps_len a]; exact hl) q⟩⟩
      · rw [if_neg hl] at h'; cases h'
    | _ => cases h
/-- a, b = e, e a tuple of data -/
theorem vs_asgT {tg : Expr} {js : List Nat} {split : PyData → Option (List PyData)} {parts : List PyData} (he : VM X Γ e (.leaf d) Γ1) (hg : VG X tg js split) (hd : split d = some parts) (h : D.nx (putsG Γ1 js parts))
    (hs : swapsWithSole [tg] e pos.line X.env = pure false := by rfl) (hw : swappedStores [tg] e X.env = pure none := by rfl) (h1 : (assignEach [tg] X.env).map (·.2) = [assign tg X.env] := by rfl) : VS X (.Assign [tg] e pos) D Γ := fun G0 H0 G H σ I D0 L =>
  ⟨_, ps_asg (runE X e) (runG X tg) hs hw h1, he G0 H0 G H σ I _ fun v G1 H1 g1 h1 r => by
    obtain ⟨vs, a, q⟩ := hg G1 H1 σ v d parts r.s.i (leaf_inv r) hd
    exact q _ (L.nx h (r.s.puts a))⟩
/-- a, b = x, y with plain local names -/
theorem vs_par {x y : Str} {px py pt : Pos} {kt k2 pt2} {d1 d2 : PyData} (k l : Nat) (hc : X.calm = true) (hN : X.N.Nodup) (ha : VD X Γ a d1) (hb : VD X Γ b d2) (h : D.nx ((Γ.set k (some (.leaf d1))).set l (some (.leaf d2))))
    (hi : X.N[k]? = some x := by rfl) (hj : X.N[l]? = some y := by rfl) (hij : k ≠ l := by decide) (hx : X.env.scope.names.lookup x = some .local := by rfl) (hy : X.env.scope.names.lookup y = some .local := by rfl)
    (hw : swappedStores [.Tuple [.Name x px, .Name y py] kt pt] (.Tuple [a, b] k2 pt2) X.env = pure (some [x, y]) := by rfl)
    (hs : swapsWithSole [.Tuple [.Name x px, .Name y py] kt pt] (.Tuple [a, b] k2 pt2) pos.line X.env = pure false := by rfl)
    (he : starEach [a, b] X.env = (false, eval a X.env) :: starEach [b] X.env := by rfl) (he2 : starEach [b] X.env = [(false, eval b X.env)] := by rfl) :
    VS X (.Assign [.Tuple [.Name x px, .Name y py] kt pt] (.Tuple [a, b] k2 pt2) pos) D Γ := fun G0 H0 G H σ I D0 L =>
  ⟨_, ps_par hc hN hi hj hij hx hy (runA X [a, b]) hw hs, (va_cons ha (va_cons hb va_nil he2) he) G0 H0 G H σ I _ fun vs G1 H1 g1 h1 I1 a1 => by
    cases a1 with
    | cons r1 a2 =>
      cases a2 with
      | cons r2 a3 =>
        cases a3
        refine ⟨_, _, rfl, L.nx (G := G1) h ?_⟩
        exact InvS.puts (js := [k, l]) I1 (.cons r1 (.cons r2 .nil))⟩

/-! ### lists that are written -/
theorem RepOs.app {K : Fg} {G H : Hp} : ∀ {os os2 : List OT} {vs vs2 : List V} {A B : List Addr}, RepOs K G H os vs A → RepOs K G H os2 vs2 B → (∀ a ∈ A, a ∉ B) → RepOs K G H (os ++ os2) (vs ++ vs2) (A ++ B)
  | _, _, _, _, _, _, .nil, s, _ => s
  | _, _, _, _, _, _, .cons (A := A1) (B := B1) r rs d, s, dd => by
    show RepOs K G H (_ :: (_ ++ _)) (_ :: (_ ++ _)) ((A1 ++ B1) ++ _)
    rw [List.append_assoc]
    exact .cons r (RepOs.app rs s fun a ha => dd a (List.mem_append_right _ ha)) fun a ha hb => by
      rcases List.mem_append.mp hb with hb | hb
      · exact d a ha hb
      · exact dd a (List.mem_append_left _ ha) hb
theorem RepOs.snoc {K : Fg} {G H : Hp} {o : OT} : ∀ {os : List OT} {vs : List V} {A : List Addr}, RepOs K G H (os ++ [o]) vs A → ∃ us v B C, vs = us ++ [v] ∧ RepOs K G H os us B ∧ RepO K G H o v C ∧ (∀ a ∈ B, a ∉ C) ∧ (∀ a ∈ B, a ∈ A) ∧ ∀ a ∈ C, a ∈ A
  | [], _, _, h => by
    cases h with
    | cons r rs _ =>
      cases rs
      exact ⟨[], _, [], _, rfl, .nil, r, (fun _ h => nomatch h), (fun _ h => nomatch h), fun a ha => List.mem_append_left _ ha⟩
  | o1 :: os, _, _, h => by
    cases h with
    | cons r rs d =>
      rename_i v vs A1 B1
      obtain ⟨us, w, B, C, e, h1, h2, h3, h4, h5⟩ := RepOs.snoc rs
      subst e
      refine ⟨v :: us, w, A1 ++ B, C, rfl, .cons r h1 (fun a ha hb => d a ha (h4 a hb)), h2, fun a ha hc => ?_, fun a ha => ?_, fun a ha => List.mem_append_right _ (h5 a ha)⟩
      · rcases List.mem_append.mp ha with ha | ha
        · exact d a ha (h5 a hc)
        · exact h3 a ha hc
      · rcases List.mem_append.mp ha with ha | ha
        · exact List.mem_append_left _ ha
        · exact List.mem_append_right _ (h4 a ha)
theorem RepOs.setAt {K : Fg} {G H : Hp} {o : OT} {v : V} {C : List Addr} : ∀ {os : List OT} {vs : List V} {A : List Addr} (n : Nat), RepOs K G H os vs A → RepO K G H o v C → (∀ a ∈ C, a ∉ A) → ∃ B, RepOs K G H (os.set n o) (vs.set n v) B ∧ ∀ a ∈ B, a ∈ A ∨ a ∈ C
  | _, _, _, _, .nil, _, _ => ⟨_, .nil, fun _ h => nomatch h⟩
  | _, _, _, 0, .cons (B := B1) _ rs _, r, d => ⟨C ++ B1, .cons r rs (fun a ha hb => d a ha (List.mem_append_right _ hb)), fun a ha => by
      rcases List.mem_append.mp ha with ha | ha
      · exact .inr ha
      · exact .inl (List.mem_append_right _ ha)⟩
  | _, _, _, n + 1, .cons (A := A1) r0 rs d0, r, d => by
    obtain ⟨B, h1, h2⟩ := RepOs.setAt n rs r fun a ha hb => d a ha (List.mem_append_right _ hb)
    refine ⟨A1 ++ B, .cons r0 h1 fun a ha hb => ?_, fun a ha => ?_⟩
    · rcases h2 a hb with z | z
      · exact d0 a ha z
      · exact d a z (List.mem_append_left _ ha)
    · rcases List.mem_append.mp ha with ha | ha
      · exact .inl (List.mem_append_left _ ha)
      · rcases h2 a ha with z | z
        · exact .inl (List.mem_append_right _ z)
        · exact .inr z
/-- the list at p in slot k is written -/
theorem write_lst {K : Fg} {G0 H0 G H : Hp} {σ : Sl} {k : Nat} {p : Addr} {C B : List Addr} {vs : List V} (b : Base G0 H0 G H) (s : SatL K G H σ (Γ.set k none) C) (hv : σ[k]? = some (some (.ref p))) (fC : ∀ a ∈ C, H0 a = none) (gp : G p = none) (h0p : H0 p = none) (nC : p ∉ C)
    (rs : RepOs K G H os vs B) (fB : ∀ a ∈ B, H0 a = none) (nB : p ∉ B) (dB : ∀ a ∈ B, a ∉ C) : InvS K G0 H0 G (upd H p (.lst vs)) σ (Γ.set k (some (.lst os))) := by
  have s' : SatL K G (upd H p (.lst vs)) σ (Γ.set k none) C := s.to (Same.refl _) fun a ha => ⟨upd_ne fun z => nC (z ▸ ha), (s.own a ha).2⟩
  have rs' : RepOs K G (upd H p (.lst vs)) os vs B := rs.to (Same.refl _) fun a ha => ⟨upd_ne fun z => nB (z ▸ ha), (rs.own a ha).2⟩
  obtain ⟨C2, h1, h2⟩ := s'.swap (o := .lst os) (B := p :: B) hv (.lst upd_same gp rs' nB) fun a ha => by
    rcases List.mem_cons.mp ha with rfl | ha
    · exact nC
    · exact dB a ha
  refine ⟨⟨b.g, same_mut b.h h0p, same_mut b.i gp, b.n⟩, C2, h1, fun a ha => ?_⟩
  rcases h2 a ha with z | z
  · exact fC a z
  · rcases List.mem_cons.mp z with rfl | z
    · exact h0p
    · exact fB a z
/-- what a slot that holds a list of one's own gives -/
theorem SatL.lst {K : Fg} {G H : Hp} {σ : Sl} {A : List Addr} {k : Nat} (s : SatL K G H σ Γ A) (hs : Γ[k]? = some (some (.lst os))) :
    ∃ p vs B C, σ[k]? = some (some (.ref p)) ∧ H p = some (.lst vs) ∧ G p = none ∧ RepOs K G H os vs B ∧ p ∉ B ∧ SatL K G H σ (Γ.set k none) C ∧ p ∉ C ∧ (∀ a ∈ B, a ∉ C) ∧ p ∈ A ∧ (∀ a ∈ B, a ∈ A) ∧ ∀ a ∈ C, a ∈ A := by
  obtain ⟨v, B, C, h1, r, s', d, hB, hC⟩ := s.take hs
  cases r with
  | lst hp gp rs nB => exact ⟨_, _, _, C, h1, hp, gp, rs, nB, s', d _ List.mem_cons_self, fun a ha => d a (List.mem_cons_of_mem _ ha), hB _ List.mem_cons_self, fun a ha => hB a (List.mem_cons_of_mem _ ha), hC⟩
variable {x : Str} {p1 p2 apos cpos : Pos}
theorem vs_append (k : Nat) (he : VM X Γ e o Γ1) (h0 : ∃ os', Γ[k]? = some (some (.lst os'))) (hs : Γ1[k]? = some (some (.lst os))) (hz : os.length < 1000000) (h : D.nx (Γ1.set k (some (.lst (os ++ [o]))))) (hN : X.N[k]? = some x := by rfl)
    (hv : Vis X.env.scope x := by first | exact Or.inl rfl | exact Or.inr (Or.inl rfl) | exact Or.inr (Or.inr rfl)) (hd : (x == ("__debug__" : Str)) = false := by decide) (hcd : (x == ("__classdict__" : Str)) = false := by decide)
    (hbase : attributeBase (.Name x p1) "append" X.env (eval (.Name x p1) X.env) = eval (.Name x p1) X.env := by rfl)
    (hfew : ((backTo cpos (starEach [e] X.env)).all (fun x => !x.1) && (backToKw cpos (keywordEach [] X.env)).all (fun x => x.1.isSome) && decide ([e].length + ([] : List Keyword).length + (if ([] : List Keyword).isEmpty then 0 else 1) < 30)) = true := by rfl)
    (hline : (apos.endLine == cpos.line) = true := by rfl) (hst : starEach [e] X.env = [(false, eval e X.env)] := by rfl) (hsw : swapsWith (.Call (.Attribute (.Name x p1) "append" apos) [e] [] cpos) none pos.line X.env = pure false := by rfl) :
    VS X (.Expr (.Call (.Attribute (.Name x p1) "append" apos) [e] [] cpos) pos) D Γ := fun G0 H0 G H σ I D0 L => by
  obtain ⟨os', h0⟩ := h0
  refine ⟨_, ps_expr (pe_bm PySem.F.plainAttrs_list PySem.F.slot_list_append PySem.F.type_list_append mt_append (pe_var hN hv hd hcd) (runA X [e]) hbase hfew hline hst (by rfl)) hsw, ?_⟩
  obtain ⟨b, A, s, f⟩ := id I
  obtain ⟨p, vs, B, C, hk, hp, _⟩ := s.lst h0
  refine ⟨_, hk, .inl ⟨rfl, vs, .of hp⟩, run_view1 (P := fun _ _ _ => True) (G := G) hst (he G0 H0 G H σ I _ fun v G1 H1 g1 h1 ⟨b1, A1, B1, s1, fa1, r1, fb1, d1⟩ => ?_)⟩
  obtain ⟨p', vs', B', C', hk', hp', gp', rs', nB', s', nC', dBC, hpA, hBA, hCA⟩ := s1.lst hs
  have e1 : p' = p := by rw [hk] at hk'; cases hk'; rfl
  subst e1
  refine ⟨p', vs', v, rfl, rfl, hp', szlt (by rw [← rs'.len]; exact hz), L.nx (G := G1) h ?_⟩
  have dB : ∀ a ∈ B', a ∉ B1 := fun a ha hb => d1 a hb (hBA a ha)
  have rs2 : RepOs X.K G1 H1 (os ++ [o]) (vs' ++ [v]) (B' ++ (B1 ++ [])) := rs'.app (RepOs.cons r1 .nil fun _ _ h => nomatch h) fun a ha hb => by
    rw [List.append_nil] at hb
    exact dB a ha hb
  rw [List.append_nil] at rs2
  refine write_lst b1 s' hk' (fun a ha => fa1 a (hCA a ha)) gp' (fa1 _ hpA) nC' rs2 (fun a ha => ?_) (fun hm => ?_) (fun a ha hc => ?_)
  · rcases List.mem_append.mp ha with ha | ha
    · exact fa1 a (hBA a ha)
    · exact fb1 a ha
  · rcases List.mem_append.mp hm with hm | hm
    · exact nB' hm
    · exact d1 _ hm hpA
  · rcases List.mem_append.mp ha with ha | ha
    · exact dBC a ha hc
    · exact d1 a ha (hCA a hc)
theorem vs_extend (k : Nat) (he : VL X Γ e ds) (hs : Γ[k]? = some (some (.lst os))) (hz : os.length + ds.length ≤ 1000000) (h : D.nx (Γ.set k (some (.lst (os ++ lfs ds))))) (hN : X.N[k]? = some x := by rfl)
    (hv : Vis X.env.scope x := by first | exact Or.inl rfl | exact Or.inr (Or.inl rfl) | exact Or.inr (Or.inr rfl)) (hd : (x == ("__debug__" : Str)) = false := by decide) (hcd : (x == ("__classdict__" : Str)) = false := by decide)
    (hbase : attributeBase (.Name x p1) "extend" X.env (eval (.Name x p1) X.env) = eval (.Name x p1) X.env := by rfl)
    (hfew : ((backTo cpos (starEach [e] X.env)).all (fun x => !x.1) && (backToKw cpos (keywordEach [] X.env)).all (fun x => x.1.isSome) && decide ([e].length + ([] : List Keyword).length + (if ([] : List Keyword).isEmpty then 0 else 1) < 30)) = true := by rfl)
    (hline : (apos.endLine == cpos.line) = true := by rfl) (hst : starEach [e] X.env = [(false, eval e X.env)] := by rfl) (hsw : swapsWith (.Call (.Attribute (.Name x p1) "extend" apos) [e] [] cpos) none pos.line X.env = pure false := by rfl) :
    VS X (.Expr (.Call (.Attribute (.Name x p1) "extend" apos) [e] [] cpos) pos) D Γ := fun G0 H0 G H σ I D0 L => by
  refine ⟨_, ps_expr (pe_bm PySem.F.plainAttrs_list PySem.F.slot_list_extend PySem.F.type_list_extend mt_extend (pe_var hN hv hd hcd) (runA X [e]) hbase hfew hline hst (by rfl)) hsw, ?_⟩
  obtain ⟨b, A, s, f⟩ := id I
  obtain ⟨p, vs, B, C, hk, hp, _⟩ := s.lst hs
  refine ⟨_, hk, .inl ⟨rfl, vs, .of hp⟩, run_view1 (P := fun _ _ _ => True) (G := G) hst (he G0 H0 G H σ I _ fun p2 vs2 G1 H1 g1 h1 ⟨b1, A1, s1, fa1⟩ hp2 a2 => ?_)⟩
  obtain ⟨p', vs', B', C', hk', hp', gp', rs', nB', s', nC', dBC, hpA, hBA, hCA⟩ := s1.lst hs
  have e1 : p' = p := by rw [hk] at hk'; cases hk'; rfl
  subst e1
  refine ⟨p', p2, vs', vs2, rfl, rfl, hp', hp2, szle (by rw [← rs'.len, dps_len a2]; exact hz), L.nx (G := G1) h ?_⟩
  have rs2 : RepOs X.K G1 H1 (os ++ lfs ds) (vs' ++ vs2) (B' ++ []) := rs'.app (RepOs.of_dps a2) fun _ _ h => nomatch h
  rw [List.append_nil] at rs2
  exact write_lst b1 s' hk' (fun a ha => fa1 a (hCA a ha)) gp' (fa1 _ hpA) nC' rs2 (fun a ha => fa1 a (hBA a ha)) nB' dBC
/-- xs[i] = e -/
theorem vs_setI (k : Nat) {n : Nat} {ix : Expr} {ipos tpos : Pos} (he : VM X Γ e o Γ1) (hs : Γ1[k]? = some (some (.lst os))) (hix : VD X Γ1 ix (.int n)) (hn : n < os.length) (h : D.nx (Γ1.set k (some (.lst (os.set n o))))) (hN : X.N[k]? = some x := by rfl)
    (hv : Vis X.env.scope x := by first | exact Or.inl rfl | exact Or.inr (Or.inl rfl) | exact Or.inr (Or.inr rfl)) (hd : (x == ("__debug__" : Str)) = false := by decide) (hcd : (x == ("__classdict__" : Str)) = false := by decide)
    (ha : ∀ v, assign (.Subscript (.Name x p1) ix tpos) X.env v = (do
      let ov ← holding [v] (eval (.Name x p1) X.env)
      let iv ← holding [v, ov] (eval ix X.env)
      standAt tpos
      holding [v, ov, iv] (setItem ov iv v)
      release [v, ov, iv] []) := by intro _; rfl)
    (hs1 : swapsWithSole [.Subscript (.Name x p1) ix tpos] e pos.line X.env = pure false := by rfl) (hw : swappedStores [.Subscript (.Name x p1) ix tpos] e X.env = pure none := by rfl) (h1 : (assignEach [.Subscript (.Name x p1) ix tpos] X.env).map (·.2) = [assign (.Subscript (.Name x p1) ix tpos) X.env] := by rfl) :
    VS X (.Assign [.Subscript (.Name x p1) ix tpos] e pos) D Γ := fun G0 H0 G H σ I D0 L => by
  refine ⟨_, ps_asg (runE X e) (pg_sub (pe_var hN hv hd hcd) (runE X ix) set_list ha) hs1 hw h1, he G0 H0 G H σ I _ fun v G1 H1 g1 h1 ⟨b1, A1, B1, s1, fa1, r1, fb1, d1⟩ => ?_⟩
  obtain ⟨p0, _, _, _, hk0, _⟩ := s1.lst hs
  refine ⟨_, hk0, hix G0 (addG H0 H1 B1) G1 H1 σ (InvR.hold b1 s1 fa1 r1 fb1 d1) _ fun w G2 H2 g2 h2 r2 => ?_⟩
  have e2 := leaf_inv r2
  cases e2
  obtain ⟨b2, A2, B2, s2, fa2, _, _, _⟩ := r2
  have b2' := Base.unhold b1 b2
  have r1' := RepO.held b1 r1 b2 g2 h2
  have dA : ∀ a ∈ B1, a ∉ A2 := r1.apart fa2
  have fa2' := free_of b1 fa2
  obtain ⟨p', vs', B', C', hk', hp', gp', rs', nB', s', nC', dBC, hpA, hBA, hCA⟩ := s2.lst hs
  have e1 : p' = p0 := by rw [hk0] at hk'; cases hk'; rfl
  subst e1
  refine ⟨p', vs', (n : Int), n, rfl, rfl, hp', ?_, L.nx (G := G2) h ?_⟩
  · unfold ixN
    rw [if_pos (by omega), if_pos (by rw [← rs'.len]; omega)]
    simp
  · obtain ⟨B3, rs3, hB3⟩ := rs'.setAt n r1' fun a ha hb => dA a ha (hBA a hb)
    refine write_lst b2' s' hk' (fun a ha => fa2' a (hCA a ha)) gp' (fa2' _ hpA) nC' rs3 (fun a ha => ?_) (fun hm => ?_) (fun a ha hc => ?_)
    · rcases hB3 a ha with z | z
      · exact fa2' a (hBA a z)
      · exact fb1 a z
    · rcases hB3 _ hm with z | z
      · exact nB' z
      · exact dA _ z hpA
    · rcases hB3 a ha with z | z
      · exact dBC a z hc
      · exact dA a z (hCA a hc)
/-- xs.pop(), by values: what is popped, the list behind it -/
theorem pop_run (k : Nat) {G0 H0 G H : Hp} {σ : Sl} (I : InvS X.K G0 H0 G H σ Γ) (hs : Γ[k]? = some (some (.lst (os ++ [o])))) {Q : VK} (hQ : ∀ v H', InvR X.K G0 H0 G H' σ (Γ.set k (some (.lst os))) o v → Q v H') : tBM0 X.K "list" rPop (tVar k) σ H Q := by
  obtain ⟨b, A, s, fa⟩ := I
  obtain ⟨p, vs, B, C, hk, hp, gp, rs, nB, s', nC, dBC, hpA, hBA, hCA⟩ := s.lst hs
  obtain ⟨us, v, B1, B2, e, h1, h2, h3, h4, h5⟩ := rs.snoc
  subst e
  refine ⟨_, hk, .inl ⟨rfl, _, .of hp⟩, p, us ++ [v], v, rfl, rfl, hp, by simp, ?_⟩
  rw [List.dropLast_concat]
  have I' := write_lst b s' hk (fun a ha => fa a (hCA a ha)) gp (fa _ hpA) nC h1 (fun a ha => fa a (hBA a (h4 a ha))) (fun z => nB (h4 _ z)) (fun a ha => dBC a (h4 a ha))
  obtain ⟨b2, A2, s2, fa2⟩ := I'
  refine hQ v _ ⟨b2, A2, B2, s2, fa2, h2.to (Same.refl _) (fun a ha => ⟨upd_ne fun z => nB (z ▸ h5 a ha), (h2.own a ha).2⟩), (fun a ha => fa a (hBA a (h5 a ha))), fun a ha hA => ?_⟩
  -- a is owned by o: it is in no slot
  have key : SatL X.K G (upd H p (.lst us)) σ (Γ.set k none) C := s'.to (Same.refl _) fun a ha => ⟨upd_ne fun z => nC (z ▸ ha), (s'.own a ha).2⟩
  obtain ⟨w, B5, C5, k1, k2, k3, k4, k5, k6⟩ := s2.take (i := k) (o := .lst os) (by
    have hl : k < Γ.length := (List.getElem?_eq_some_iff.mp hs).1
    simp [hl])
  rw [show (Γ.set k (some (OT.lst os))).set k none = Γ.set k none by simp] at k3
  have eC : C5 = C := key.uniq k3 fun _ _ => rfl
  subst eC
  have ew : w = .ref p := by rw [hk] at k1; cases k1; rfl
  subst ew
  have r5 : RepO X.K G (upd H p (.lst us)) (.lst os) (.ref p) (p :: B1) := .lst upd_same gp (h1.to (Same.refl _) fun a ha => ⟨upd_ne fun z => nB (z ▸ h4 a ha), (h1.own a ha).2⟩) fun z => nB (h4 _ z)
  have eB : B5 = p :: B1 := r5.uniq k2 fun _ _ => rfl
  subst eB
  -- A2 is p :: B1 and C together
  have hA2 : a ∈ p :: B1 ∨ a ∈ C5 := by
    obtain ⟨C6, z1, z2⟩ := key.swap (o := .lst os) hk r5 (fun a ha => by
      rcases List.mem_cons.mp ha with rfl | ha
      · exact nC
      · exact dBC a (h4 a ha))
    have : A2 = C6 := z1.uniq s2 fun _ _ => rfl
    rw [this] at hA
    exact (z2 a hA).symm
  rcases hA2 with z | z
  · rcases List.mem_cons.mp z with rfl | z
    · exact nB (h5 _ ha)
    · exact h3 a z ha
  · exact dBC a (h5 a ha) z
/-- y = xs.pop() -/
theorem vs_setPop {y : Str} {py : Pos} (l k : Nat) (hs : Γ[k]? = some (some (.lst (os ++ [o])))) (h : D.nx ((Γ.set k (some (.lst os))).set l (some o))) (hnd : X.N.Nodup) (hi : X.N[l]? = some y := by rfl) (hx : Loc X.env.scope y := by first | exact Or.inl rfl | exact Or.inr rfl) (hN : X.N[k]? = some x := by rfl)
    (hv : Vis X.env.scope x := by first | exact Or.inl rfl | exact Or.inr (Or.inl rfl) | exact Or.inr (Or.inr rfl)) (hd : (x == ("__debug__" : Str)) = false := by decide) (hcd : (x == ("__classdict__" : Str)) = false := by decide)
    (hbase : attributeBase (.Name x p1) "pop" X.env (eval (.Name x p1) X.env) = eval (.Name x p1) X.env := by rfl) (hline : (apos.endLine == cpos.line) = true := by rfl)
    (hsw : swapsWith (.Call (.Attribute (.Name x p1) "pop" apos) [] [] cpos) (some (.Name y py)) pos.line X.env = pure false := by rfl) (hf : X.fn y = true ∨ X.env.scope.names.lookup y = some .local := by first | exact .inl rfl | exact .inr rfl) :
    VS X (.Assign [.Name y py] (.Call (.Attribute (.Name x p1) "pop" apos) [] [] cpos) pos) D Γ := fun G0 H0 G H σ I D0 L =>
  ⟨_, ps_set hnd hi hx (pe_bm0 PySem.F.plainAttrs_list PySem.F.slot_list_pop PySem.F.type_list_pop mt_pop (pe_var hN hv hd hcd) hbase hline) hsw hf, pop_run k I hs fun v H' r => L.nx h (r.put l)⟩
/-- a, b = xs.pop() -/
theorem vs_asgPop {tg : Expr} {js : List Nat} {split : PyData → Option (List PyData)} {parts : List PyData} (k : Nat) (hs : Γ[k]? = some (some (.lst (os ++ [.leaf d])))) (hg : VG X tg js split) (hd' : split d = some parts) (h : D.nx (putsG (Γ.set k (some (.lst os))) js parts)) (hN : X.N[k]? = some x := by rfl)
    (hv : Vis X.env.scope x := by first | exact Or.inl rfl | exact Or.inr (Or.inl rfl) | exact Or.inr (Or.inr rfl)) (hd : (x == ("__debug__" : Str)) = false := by decide) (hcd : (x == ("__classdict__" : Str)) = false := by decide)
    (hbase : attributeBase (.Name x p1) "pop" X.env (eval (.Name x p1) X.env) = eval (.Name x p1) X.env := by rfl) (hline : (apos.endLine == cpos.line) = true := by rfl)
    (hs1 : swapsWithSole [tg] (.Call (.Attribute (.Name x p1) "pop" apos) [] [] cpos) pos.line X.env = pure false := by rfl) (hw : swappedStores [tg] (.Call (.Attribute (.Name x p1) "pop" apos) [] [] cpos) X.env = pure none := by rfl) (h1 : (assignEach [tg] X.env).map (·.2) = [assign tg X.env] := by rfl) :
    VS X (.Assign [tg] (.Call (.Attribute (.Name x p1) "pop" apos) [] [] cpos) pos) D Γ := fun G0 H0 G H σ I D0 L =>
  ⟨_, ps_asg (pe_bm0 PySem.F.plainAttrs_list PySem.F.slot_list_pop PySem.F.type_list_pop mt_pop (pe_var hN hv hd hcd) hbase hline) (runG X tg) hs1 hw h1, pop_run k I hs fun v H' r => by
    obtain ⟨vs, a, q⟩ := hg _ H' σ v d parts r.s.i (leaf_inv r) hd'
    exact q _ (L.nx h (r.s.puts a))⟩
/-- xs.pop() as a statement -/
theorem vs_popE (k : Nat) (hs : Γ[k]? = some (some (.lst (os ++ [o])))) (h : D.nx (Γ.set k (some (.lst os)))) (hN : X.N[k]? = some x := by rfl)
    (hv : Vis X.env.scope x := by first | exact Or.inl rfl | exact Or.inr (Or.inl rfl) | exact Or.inr (Or.inr rfl)) (hd : (x == ("__debug__" : Str)) = false := by decide) (hcd : (x == ("__classdict__" : Str)) = false := by decide)
    (hbase : attributeBase (.Name x p1) "pop" X.env (eval (.Name x p1) X.env) = eval (.Name x p1) X.env := by rfl) (hline : (apos.endLine == cpos.line) = true := by rfl)
    (hsw : swapsWith (.Call (.Attribute (.Name x p1) "pop" apos) [] [] cpos) none pos.line X.env = pure false := by rfl) :
    VS X (.Expr (.Call (.Attribute (.Name x p1) "pop" apos) [] [] cpos) pos) D Γ := fun G0 H0 G H σ I D0 L =>
  ⟨_, ps_expr (pe_bm0 PySem.F.plainAttrs_list PySem.F.slot_list_pop PySem.F.type_list_pop mt_pop (pe_var hN hv hd hcd) hbase hline) hsw, pop_run k I hs fun v H' r => L.nx h r.s⟩

/-! ### while -/
theorem vs_while {body : List Stmt} (W : Nat → Env' → Prop) (h0 : ∃ m, W m Γ) (hs : ∀ m Γ', W m Γ' → ∃ k, VB X Γ' c k ∧ (k = true → VK' X body { D with nx := fun Γ2 => ∃ m', m' < m ∧ W m' Γ2, ct := fun Γ2 => ∃ m', m' < m ∧ W m' Γ2, bk := D.nx } Γ') ∧ (k = false → D.nx Γ'))
    (hp : PassesOwn (model X.prog X.w) X.A X.env X.xe := by exact PassesOwn.never) : VS X (.While c body [] pos) D Γ := fun G0 H0 G H σ I D0 L => by
  refine ⟨_, ps_while hp (runT X c) (runB X body), fun m σ H => ∃ Γ' G, InvS X.K G0 H0 G H σ Γ' ∧ W m Γ', ?_, ?_⟩
  · obtain ⟨m, w⟩ := h0
    exact ⟨m, Γ, G, I, w⟩
  · rintro m σ1 H1 ⟨Γ', G1, I1, w⟩
    obtain ⟨k, hk, hT, hF⟩ := hs m Γ' w
    refine hk G0 H0 G1 H1 σ1 I1 _ fun G2 H2 g2 h2 I2 => ?_
    cases k with
    | true =>
      refine iteT ⟨fun σ3 H3 => ∃ Γ3 G3, InvS X.K G0 H0 G3 H3 σ3 Γ3 ∧ ∃ m', m' < m ∧ W m' Γ3, fun σ' H' ⟨Γ3, G3, I3, m', hm, w'⟩ => ⟨m', hm, Γ3, G3, I3, w'⟩, ?_⟩
      exact hT rfl G0 H0 G2 H2 σ1 I2 _ ⟨fun n I' => ⟨_, _, I', n⟩, fun n I' => L.nx n I', fun n I' => ⟨_, _, I', n⟩, L.rt⟩
    | false => exact iteF (L.nx (hF rfl) I2)

/-! ### what is walked -/
structure Wk (K : Fg) (J : It) (G : Hp) (ds : List PyData) : Prop where
  go : ∀ i H, i < ds.length → Same G H → J.go i H
  yl : ∀ i H x H', i < ds.length → Same G H → J.yld i H x H' → H' = H ∧ ∀ d, ds[i]? = some d → Rp K G x d
  st : ∀ i H, ds.length ≤ i → Same G H → J.stop i H
theorem Wk.mono {K : Fg} {J : It} {G G' : Hp} (w : Wk K J G ds) (e : Same G G') : Wk K J G' ds :=
  ⟨fun i H hi s => w.go i H hi (e.trans s), fun i H x H' hi s y => by
    obtain ⟨h1, h2⟩ := w.yl i H x H' hi (e.trans s) y
    exact ⟨h1, fun d hd => dp_mono e (h2 d hd)⟩, fun i H hi s => w.st i H hi (e.trans s)⟩
def VI (X : Cx) (Γ : Env') (tg iter : Expr) (ds : List PyData) : Prop := ∀ (G0 H0 G H : Hp) (σ : Sl), InvS X.K G0 H0 G H σ Γ → ∀ R : It → Hp → Prop,
  (∀ J G' H', Same G G' → Same H H' → InvS X.K G0 H0 G' H' σ Γ → Wk X.K J G' ds → R J H') → ∃ wi, PI X tg iter wi ∧ wi σ H R
variable {tg iter : Expr}
theorem vi_list (h : VD X Γ iter (.list ds)) : VI X Γ tg iter ds := fun G0 H0 G H σ I R q =>
  ⟨_, pi_list (runE X iter), h G0 H0 G H σ I _ fun v G1 H1 g1 h1 r => by
    have e := leaf_inv r
    cases e with
    | lst hp a =>
      rename_i p vs
      refine ⟨p, rfl, ⟨vs, .of (r.s.i _ _ hp)⟩, q _ G1 H1 g1 h1 r.s ⟨fun i H hi s => ?_, fun i H x H' hi s y => ⟨y.1, fun d hd => ?_⟩, fun i H hi s => ⟨vs, .of (s _ _ hp), by rw [dps_len a]; exact hi⟩⟩⟩
      · obtain ⟨v, hv, _⟩ := dps_get a (List.getElem?_eq_getElem hi)
        exact ⟨vs, v, .of (s _ _ hp), hv⟩
      · have hx := y.2 vs (.of (s _ _ hp))
        obtain ⟨d', hd', rd⟩ := dps_get' a hx
        rw [hd] at hd'; cases hd'
        exact rd⟩
theorem vi_tup (h : VD X Γ iter (.tuple ds)) : VI X Γ tg iter ds := fun G0 H0 G H σ I R q =>
  ⟨_, pi_tup (runE X iter), h G0 H0 G H σ I _ fun v G1 H1 g1 h1 r => by
    have e := leaf_inv r
    cases e with
    | tup hp a =>
      rename_i p vs
      refine ⟨p, rfl, ⟨vs, .of (r.s.i _ _ hp)⟩, q _ G1 H1 g1 h1 r.s ⟨fun i H hi s => ?_, fun i H x H' hi s y => ⟨y.1, fun d hd => ?_⟩, fun i H hi s => ⟨vs, .of (s _ _ hp), by rw [dps_len a]; exact hi⟩⟩⟩
      · obtain ⟨v, hv, _⟩ := dps_get a (List.getElem?_eq_getElem hi)
        exact ⟨vs, v, .of (s _ _ hp), hv⟩
      · have hx := y.2 vs (.of (s _ _ hp))
        obtain ⟨d', hd', rd⟩ := dps_get' a hx
        rw [hd] at hd'; cases hd'
        exact rd⟩
/-- the ints lo, lo + c, .. -/
def rgD (lo c : Int) (n : Nat) : List PyData := (List.range n).map fun i => .int (lo + (i : Nat) * c)
theorem rgD_len (lo c : Int) (n : Nat) : (rgD lo c n).length = n := by simp [rgD]
theorem rgD_get {lo c : Int} {n k : Nat} {d : PyData} (h : (rgD lo c n)[k]? = some d) : k < n ∧ d = .int (lo + (k : Nat) * c) := by
  have hk : k < n := by
    have := (List.getElem?_eq_some_iff.mp h).1
    rwa [rgD_len] at this
  refine ⟨hk, ?_⟩
  simp [rgD, hk] at h
  exact h.symm
theorem vi_rng1 {p : Pos} (ha : VD X Γ a (.int i)) (hb : -(2 ^ 62) ≤ i ∧ i < 2 ^ 62) (hm : X.mg "range" = none) (hg : Gl X "range" := by rfl) (hs : starEach [a] X.env = [(false, eval a X.env)] := by rfl) : VI X Γ tg (.Call (.Name "range" p) [a] [] pos) (rgD 0 1 i.toNat) := fun G0 H0 G H σ I R q =>
  ⟨_, pi_range1 hg hm (runA X [a]) hs, run_view1 (P := fun _ _ _ => True) (G := G) hs (ha G0 H0 G H σ I _ fun v G1 H1 g1 h1 r => by
    have e := leaf_inv r
    cases e
    refine ⟨i, rfl, hb.1, hb.2, q _ G1 H1 g1 h1 r.s ⟨fun k H hk s => by rw [rgD_len] at hk; exact hk, fun k H x H' hk s y => ⟨y.1, fun d hd => ?_⟩, fun k H hk s => by rw [rgD_len] at hk; exact hk⟩⟩
    obtain ⟨_, e⟩ := rgD_get hd
    rw [e, y.2, Int.mul_one]
    exact .int _)⟩
theorem vi_rng2 {p : Pos} (ha : VD X Γ a (.int i)) (hb : VD X Γ b (.int j)) (hz : (-(2 ^ 62) ≤ i ∧ i < 2 ^ 62) ∧ -(2 ^ 62) ≤ j ∧ j < 2 ^ 62) (hm : X.mg "range" = none) (hg : Gl X "range" := by rfl) (hs : starEach [a, b] X.env = [(false, eval a X.env), (false, eval b X.env)] := by rfl) (hs2 : starEach [b] X.env = [(false, eval b X.env)] := by rfl) :
    VI X Γ tg (.Call (.Name "range" p) [a, b] [] pos) (rgD i 1 (j - i).toNat) := fun G0 H0 G H σ I R q =>
  ⟨_, pi_range2 hg hm (runA X [a, b]) hs hs2, (va_cons ha (va_cons hb va_nil hs2) (by rw [hs, hs2])) G0 H0 G H σ I _ fun vs G1 H1 g1 h1 I1 a1 => by
    cases a1 with
    | cons r1 a2 =>
      cases a2 with
      | cons r2 a3 =>
        cases a3; cases r1; cases r2
        refine ⟨i, j, rfl, ⟨hz.1.1, hz.1.2, hz.2.1, hz.2.2⟩, q _ G1 H1 g1 h1 I1 ⟨fun k H hk s => by rw [rgD_len] at hk; exact hk, fun k H x H' hk s y => ⟨y.1, fun d hd => ?_⟩, fun k H hk s => by rw [rgD_len] at hk; exact hk⟩⟩
        obtain ⟨_, e⟩ := rgD_get hd
        rw [e, y.2, Int.mul_one]
        exact .int _⟩
theorem vi_rng3 {p : Pos} {l : Int} {n : Nat} (ha : VD X Γ a (.int i)) (hb : VD X Γ b (.int j)) (hc : VD X Γ c (.int l)) (hz : RgC i j l n) (hm : X.mg "range" = none) (hg : Gl X "range" := by rfl) (hs : starEach [a, b, c] X.env = (false, eval a X.env) :: starEach [b, c] X.env := by rfl)
    (hs1 : starEach [b, c] X.env = (false, eval b X.env) :: starEach [c] X.env := by rfl) (hs2 : starEach [c] X.env = [(false, eval c X.env)] := by rfl) (hpl : (backTo pos (starEach [b, c] X.env)).any (·.1) = false := by rfl) :
    VI X Γ tg (.Call (.Name "range" p) [a, b, c] [] pos) (rgD i l n) := fun G0 H0 G H σ I R q =>
  ⟨_, pi_range3 hg hm (runA X [a, b, c]) hs hpl, (va_cons ha (va_cons hb (va_cons hc va_nil hs2) hs1) hs) G0 H0 G H σ I _ fun vs G1 H1 g1 h1 I1 a1 => by
    cases a1 with
    | cons r1 a2 =>
      cases a2 with
      | cons r2 a3 =>
        cases a3 with
        | cons r3 a4 =>
          cases a4; cases r1; cases r2; cases r3
          refine ⟨i, j, l, n, rfl, hz, q _ G1 H1 g1 h1 I1 ⟨fun k H hk s => by rw [rgD_len] at hk; exact hk, fun k H x H' hk s y => ⟨y.1, fun d hd => ?_⟩, fun k H hk s => by rw [rgD_len] at hk; exact hk⟩⟩
          obtain ⟨_, e⟩ := rgD_get hd
          rw [e, y.2]
          exact .int _⟩

/-! ### for -/
theorem vs_for {body : List Stmt} {js : List Nat} {split : PyData → Option (List PyData)} (W : Nat → Env' → Prop) (hi : VI X Γ tg iter ds) (hg : VG X tg js split) (h0 : W 0 Γ)
    (hs : ∀ k d Γ', ds[k]? = some d → W k Γ' → ∃ parts, split d = some parts ∧ VK' X body { D with nx := W (k + 1), ct := W (k + 1), bk := D.nx } (putsG Γ' js parts)) (hd : ∀ Γ', W ds.length Γ' → D.nx Γ')
    (hc : X.calm = true := by rfl) (hp : PassesOwn (model X.prog X.w) X.A X.env X.xe := by exact PassesOwn.never) (hf : ∀ x, foldedSetIterable iter X.env x = pure x := by intro _; rfl) : VS X (.For tg iter body [] pos) D Γ := fun G0 H0 G H σ I D0 L => by
  have hi' : PI X tg iter (fun σ H R => ∃ wi, PI X tg iter wi ∧ wi σ H R) := ⟨fun pins s σ H R I ⟨_, p, h⟩ => p.run pins s σ H R I h⟩
  refine ⟨_, ps_for hp hc hi' (runG X tg) (runB X body) hf, hi G0 H0 G H σ I _ fun J G1 H1 g1 h1 I1 wk => ?_⟩
  refine ⟨fun n m σ H => m = ds.length - n ∧ n ≤ ds.length ∧ ∃ Γ' G', Same G1 G' ∧ InvS X.K G0 H0 G' H σ Γ' ∧ W n Γ', ⟨ds.length, by simp, Nat.zero_le _, Γ, G1, Same.refl _, I1, h0⟩, ?_⟩
  rintro n m σ2 H2 ⟨rfl, hn, Γ2, G2, g2, I2, w⟩
  have wk2 := wk.mono g2
  by_cases hlt : n < ds.length
  · refine .inr ⟨wk2.go n H2 hlt I2.i, fun σ3 H3 => ∃ Γ3 G3, Same G1 G3 ∧ InvS X.K G0 H0 G3 H3 σ3 Γ3 ∧ W (n + 1) Γ3, fun σ' H' ⟨Γ3, G3, g3, I3, w3⟩ => ⟨ds.length - (n + 1), by omega, rfl, hlt, Γ3, G3, g3, I3, w3⟩, fun x H' y => ?_⟩
    obtain ⟨e, hy⟩ := wk2.yl n H2 x H' hlt I2.i y
    subst e
    have hdn : ds[n]? = some ds[n] := List.getElem?_eq_getElem hlt
    obtain ⟨parts, hp', hb⟩ := hs n ds[n] Γ2 hdn w
    obtain ⟨vs, a, q⟩ := hg G2 H' σ2 x ds[n] parts I2.i (hy _ hdn) hp'
    refine q _ ?_
    have I2' : InvS X.K G0 H0 G2 H' (puts σ2 js vs) (putsG Γ2 js parts) := I2.puts a
    obtain ⟨Hx, Ix, fx, bx⟩ := I2'.rebase
    have back : ∀ {Γ3 : Env'} {G3 H3 : Hp} {σ3 : Sl}, InvS X.K G2 Hx G3 H3 σ3 Γ3 → InvS X.K G0 H0 G3 H3 σ3 Γ3 := fun {_ G3 H3 _} ⟨b3, A3, s3, f3⟩ => ⟨bx G3 H3 b3, A3, s3, fun a ha => fx a (f3 a ha)⟩
    exact hb G2 Hx G2 H' (puts σ2 js vs) Ix _ ⟨fun n I' => ⟨_, _, g2.trans I'.1.g, back I', n⟩, fun n I' => L.nx n (back I'), fun n I' => ⟨_, _, g2.trans I'.1.g, back I', n⟩, fun n b3 r3 f3 => L.rt n (bx _ _ b3) r3 fun a ha => fx a (f3 a ha)⟩
  · have e : n = ds.length := by omega
    subst e
    exact .inl ⟨wk2.st _ H2 (Nat.le_refl _) I2.i, L.nx (hd _ w) I2⟩
end
end V3

namespace V3
open PySem PySem.Spec PyProof.Rows L2

/-! ### comprehensions -/
def RunTs (X : Cx) (ifs : List Expr) : TT := fun σ H Q => ∃ t, PTs X ifs t ∧ t σ H Q
theorem runTs (X : Cx) (ifs : List Expr) : PTs X ifs (RunTs X ifs) := ⟨fun pins s σ H Q I ⟨_, p, h⟩ => p.run pins s σ H Q I h⟩
def VTs (X : Cx) (Γ : Env') (ifs : List Expr) (b : Bool) : Prop := ∀ (G0 H0 G H : Hp) (σ : Sl), InvS X.K G0 H0 G H σ Γ → ∀ Q : Bool → Hp → Prop,
  (∀ G' H', Same G G' → Same H H' → InvS X.K G0 H0 G' H' σ Γ → Q b H') → RunTs X ifs σ H Q
theorem vts_nil {X : Cx} {Γ : Env'} : VTs X Γ [] true := fun G0 H0 G H σ I Q q => ⟨_, pts_nil, q G H (Same.refl _) (Same.refl _) I⟩
theorem vts_one {X : Cx} {Γ : Env'} {c : Expr} {b : Bool} (h : VB X Γ c b) : VTs X Γ [c] b := fun G0 H0 G H σ I Q q => ⟨_, pts_one (runT X c), h G0 H0 G H σ I Q q⟩

/-- slots that hold nothing are filled with data: nothing that is owned changes -/
theorem SatL.putF {K : Fg} {G H : Hp} : ∀ {σ : List (Option V)} {Γ : Env'} {A : List Addr} {i : Nat} {d : PyData} {v : V}, SatL K G H σ Γ A → Rp K G v d → (∀ o, Γ[i]? ≠ some (some o)) → SatL K G H (σ.set i (some v)) (Γ.set i (some (.leaf d))) A
  | _, _, _, _, _, _, .nil, _, _ => .nil
  | _, _, _, 0, _, _, .skip s, r, _ => SatL.one (A := []) (.leaf r) s (fun _ h => nomatch h)
  | _, _, _, i + 1, _, _, .skip s, r, n => .skip (SatL.putF s r fun o e => n o (by simpa using e))
  | _, _, _, 0, _, _, .one r0 s _, r, n => absurd rfl (n _)
  | _, _, _, i + 1, _, _, .one r0 s d, r, n => .one r0 (SatL.putF s r fun o e => n o (by simpa using e)) d
theorem SatL.putsF {K : Fg} {G H : Hp} : ∀ {js : List Nat} {vs : List V} {ds : List PyData} {σ : List (Option V)} {Γ : Env'} {A : List Addr}, SatL K G H σ Γ A → Rps K G vs ds → js.Nodup → (∀ j ∈ js, ∀ o, Γ[j]? ≠ some (some o)) → SatL K G H (V3.puts σ js vs) (putsG Γ js ds) A
  | [], _, _, _, _, _, s, .nil, _, _ => s
  | [], _, _, _, _, _, s, .cons _ _, _, _ => s
  | _ :: _, _, _, _, _, _, s, .nil, _, _ => s
  | j :: js, _, _, _, _, _, s, .cons a b, nd, n => by
    have h1 := s.putF a (n j List.mem_cons_self)
    refine SatL.putsF (js := js) h1 b (List.nodup_cons.mp nd).2 fun k hk o e => ?_
    have hkj : j ≠ k := fun z => (List.nodup_cons.mp nd).1 (z ▸ hk)
    rw [List.getElem?_set_ne hkj] at e
    exact n k (List.mem_cons_of_mem _ hk) o e
theorem wipeG_none {Γ : Env'} {j : Nat} : ∀ {vs : List Nat}, j ∈ vs → ∀ o, (wipeG Γ vs)[j]? ≠ some (some o)
  | [], h, _, _ => by cases h
  | v :: vs, h, o, e => by
    unfold wipeG at e
    by_cases hj : v = j
    · subst hj
      by_cases hv : v < (wipeG Γ vs).length
      · rw [List.getElem?_set_self hv] at e; cases e
      · rw [List.getElem?_eq_none (by simpa using hv)] at e; cases e
    · rw [List.getElem?_set_ne hj] at e
      refine wipeG_none ?_ o e
      rcases List.mem_cons.mp h with h | h
      · exact absurd h.symm hj
      · exact h
/-- the new list grows by an item; K's frame is told by SatL σ Γ A before -/
theorem lc_grow {K : Fg} {G0 H0 G H G3 H3 Hx : Hp} {σ σ3 : Sl} {Γ Γ3 : Env'} {A : List Addr} {D : Addr} {acc : List V} {es : List PyData}
    (b : Base G0 H0 G H) (s : SatL K G H σ Γ A) (fa : ∀ a ∈ A, H0 a = none) (hD : H D = some (.lst acc)) (gD : G D = none) (rD : Rps K G acc es) (fD : H0 D = none) (nD : D ∉ A)
    (bx : ∀ G' H', Base G Hx G' H' → Base G0 (addG H0 H [D]) G' H') (s3 : SatL K G H σ3 Γ3 A) (I3 : InvS K G Hx G3 H3 σ3 Γ3) (h3 : Same H H3) :
    InvR K G0 H0 G3 H3 σ Γ (.lst (lfs es)) (.ref D) ∧ ∀ y d, Rp K G3 y d → InvR K G0 H0 G3 (upd H3 D (.lst (acc ++ [y]))) σ Γ (.lst (lfs (es ++ [d]))) (.ref D) := by
  obtain ⟨b3, A3, s4, fa3⟩ := I3
  have agree : ∀ a ∈ A, H3 a = H a := fun a ha => by
    cases q : H a with
    | none => exact absurd q (s.own a ha).1
    | some o => exact h3 a o q
  have eA : A3 = A := s3.uniq s4 agree
  subst eA
  have bh := bx G3 H3 b3
  have b0 : Base G0 H0 G3 H3 := Base.unhold b bh
  have gD3 : G3 D = none := by
    have := bh.n D (by rw [addG_in (List.mem_singleton.mpr rfl), hD]; simp)
    rw [this]
    cases q : G0 D with
    | none => rfl
    | some o => rw [b.g D o q] at gD; cases gD
  have s0 : SatL K G3 H3 σ Γ A3 := s.to b3.g fun a ha => ⟨agree a ha, (s4.own a ha).2⟩
  have hD3 : H3 D = some (.lst acc) := h3 D _ hD
  refine ⟨⟨b0, A3, [D], s0, fa, .lst hD3 gD3 (RepOs.of_dps (dps_mono b3.g rD)) (fun h => nomatch h), (fun a ha => (List.mem_singleton.mp ha) ▸ fD), fun a ha => (List.mem_singleton.mp ha) ▸ nD⟩, fun y d ry => ?_⟩
  refine ⟨⟨b0.g, same_mut b0.h fD, same_mut b0.i gD3, b0.n⟩, A3, [D], s0.to (Same.refl _) fun a ha => ⟨upd_ne fun z => nD (z ▸ ha), (s4.own a ha).2⟩, fa, .lst upd_same gD3 (RepOs.of_dps (dps_app (dps_mono b3.g rD) (.cons ry .nil))) (fun h => nomatch h), (fun a ha => (List.mem_singleton.mp ha) ▸ fD), fun a ha => (List.mem_singleton.mp ha) ▸ nD⟩
section
variable {X : Cx} {Γ : Env'} {e a b c : Expr} {pos : Pos} {i j : Int} {d : PyData} {ds : List PyData} {o : OT} {os : List OT}
variable {elt tg iter : Expr} {ifs : List Expr} {scope : Scope} {own : List (Str × Nat)} {js : List Nat} {split : PyData → Option (List PyData)} {α : Type}
/-- what holds in a comprehension's block -/
def InBlk (X : Cx) (scope : Scope) (Pr : Cx → Prop) : Prop := ∀ (s : Shared) (H : Hp) (C : Addr) (cl : List (Str × Addr)) (fp : List Addr), Pr (X.blk s H scope (compEnvC scope cl C X.env) fp)
/-- what a comprehension walks: nothing that stands at Hs is written meanwhile -/
structure WkH (K : Fg) (J : It) (Hs G : Hp) (ds : List PyData) : Prop where
  go : ∀ i H, i < ds.length → Same Hs H → J.go i H
  yl : ∀ i H x H', i < ds.length → Same Hs H → J.yld i H x H' → H' = H ∧ ∀ d, ds[i]? = some d → Rp K G x d
  st : ∀ i H, ds.length ≤ i → Same Hs H → J.stop i H
theorem WkH.mono {K : Fg} {J : It} {Hs G G' : Hp} (w : WkH K J Hs G ds) (e : Same G G') : WkH K J Hs G' ds :=
  ⟨w.go, fun i H x H' hi s y => by
    obtain ⟨h1, h2⟩ := w.yl i H x H' hi s y
    exact ⟨h1, fun d hd => dp_mono e (h2 d hd)⟩, w.st⟩
def VIc (X : Cx) (Γ : Env') (tg iter : Expr) (ds : List PyData) : Prop := ∀ (G0 H0 G H : Hp) (σ : Sl), InvS X.K G0 H0 G H σ Γ → ∀ R : It → Hp → Prop,
  (∀ J G' H', Same G G' → Same H H' → InvS X.K G0 H0 G' H' σ Γ → WkH X.K J H' G' ds → R J H') → ∃ wi, PI X tg iter wi ∧ wi σ H R
theorem VI.cc (h : VI X Γ tg iter ds) : VIc X Γ tg iter ds := fun G0 H0 G H σ I R q => h G0 H0 G H σ I R fun J G' H' g hh I' w =>
  q J G' H' g hh I' ⟨fun i H hi s => w.go i H hi (I'.i.trans s), fun i H x H' hi s y => w.yl i H x H' hi (I'.i.trans s) y, fun i H hi s => w.st i H hi (I'.i.trans s)⟩
/-- a list of one's own -/
theorem vi_own (h : VL X Γ iter ds) : VIc X Γ tg iter ds := fun G0 H0 G H σ I R q =>
  ⟨_, pi_list (runE X iter), h G0 H0 G H σ I _ fun p vs G1 H1 g1 h1 I1 hp a => by
      refine ⟨p, rfl, ⟨vs, .of hp⟩, q _ G1 H1 g1 h1 I1 ⟨fun i H hi s => ?_, fun i H x H' hi s y => ⟨y.1, fun d hd => ?_⟩, fun i H hi s => ⟨vs, .of (s _ _ hp), by rw [dps_len a]; exact hi⟩⟩⟩
      · obtain ⟨v, hv, _⟩ := dps_get a (List.getElem?_eq_getElem hi)
        exact ⟨vs, v, .of (s _ _ hp), hv⟩
      · have hx := y.2 vs (.of (s _ _ hp))
        obtain ⟨d', hd', rd⟩ := dps_get' a hx
        rw [hd] at hd'; cases hd'
        exact rd⟩
theorem lc_core3 (own : List (Str × Nat)) {xs : List α} (enc : α → PyData) (p : α → Bool) (f : α → PyData) (hds : ds = xs.map enc) (hi : VIc X Γ tg iter ds) (no : NoOwn Γ (own.map (·.2)))
    (hg : InBlk X scope fun XB => VG XB tg js split) (hnd : js.Nodup) (hsub : ∀ j ∈ js, j ∈ own.map (·.2))
    (hs : ∀ a ∈ xs, ∃ parts, split (enc a) = some parts ∧ (InBlk X scope fun XB => VTs XB (putsG (wipeG Γ (own.map (·.2))) js parts) ifs (p a) ∧ (p a = true → VD XB (putsG (wipeG Γ (own.map (·.2))) js parts) elt (f a))))
    (hz : xs.length < 1000000) {G0 H0 G H : Hp} {σ : Sl} (I : InvS X.K G0 H0 G H σ Γ) {Q : VK} (q : ∀ v G' H', Same G G' → Same H H' → InvR X.K G0 H0 G' H' σ Γ (.lst (lfs ((xs.filter p).map f))) v → Q v H') :
    tLc (fun σ H R => ∃ wi, PI X tg iter wi ∧ wi σ H R) (fun v σ H Q => ∀ s H' C cl fp, RunG (X.blk s H' scope (compEnvC scope cl C X.env) fp) tg v σ H Q) (fun σ H Q => ∀ s H' C cl fp, RunTs (X.blk s H' scope (compEnvC scope cl C X.env) fp) ifs σ H Q)
      (fun σ H Q => ∀ s H' C cl fp, RunE (X.blk s H' scope (compEnvC scope cl C X.env) fp) elt σ H Q) (own.map (·.2)) σ H Q := by
  refine hi G0 H0 G H σ I _ fun J G1 H1 g1 h1 I1 wk D hD => ?_
  subst hds
  have r0 : InvR X.K G0 H0 G1 (upd H1 D (.lst [])) σ Γ (.lst (lfs [])) (.ref D) := new_list I1 .nil hD
  refine ⟨fun n m H' => m = xs.length - n ∧ n ≤ xs.length ∧ ∃ G', Same G1 G' ∧ Same H1 H' ∧ InvR X.K G0 H0 G' H' σ Γ (.lst (lfs (((xs.take n).filter p).map f))) (.ref D), ⟨xs.length, by simp, Nat.zero_le _, G1, Same.refl _, same_new hD, by simpa using r0⟩, ?_⟩
  rintro n m H2 ⟨rfl, hn, G2, g2, h2, r2⟩
  have wk2 := wk.mono g2
  obtain ⟨b, A, B, s, fa, rD, fB, dB⟩ := r2
  cases rD with
  | lst hD2 gD2 rsD nB =>
    obtain ⟨rD', eB⟩ := rsD.lfs_inv
    subst eB
    rename_i acc
    have fD : H0 D = none := fB D (List.mem_singleton.mpr rfl)
    have nD : D ∉ A := dB D (List.mem_singleton.mpr rfl)
    by_cases hlt : n < xs.length
    · have hds : n < (xs.map enc).length := by rw [List.length_map]; exact hlt
      refine .inr ⟨wk2.go n H2 hds h2, fun H' => ∃ G', Same G1 G' ∧ Same H1 H' ∧ InvR X.K G0 H0 G' H' σ Γ (.lst (lfs (((xs.take (n + 1)).filter p).map f))) (.ref D), fun H' ⟨G', x1, x2, x3⟩ => ⟨xs.length - (n + 1), by omega, rfl, hlt, G', x1, x2, x3⟩, fun x H' y => ?_⟩
      obtain ⟨ee, hy⟩ := wk2.yl n H2 x H' hds h2 y
      subst ee
      have hxa : xs[n]? = some xs[n] := List.getElem?_eq_getElem hlt
      have hdn : (xs.map enc)[n]? = some (enc xs[n]) := by rw [List.getElem?_map, hxa]; rfl
      obtain ⟨parts, hp', hb⟩ := hs xs[n] (List.getElem_mem hlt)
      have rx := hy _ hdn
      intro s' Hs C cl fp
      obtain ⟨vs, av, qg⟩ := hg s' Hs C cl fp G2 H' (wipe σ (own.map (·.2))) x (enc xs[n]) parts b.i rx hp'
      refine qg _ ⟨by rw [wipe_puts hsub, wipe_wipe], ?_⟩
      -- the block's state
      have Ih : InvS X.K G0 (addG H0 H' [D]) G2 H' σ Γ := InvR.hold b s fa (.lst hD2 gD2 rsD nB) fB dB
      obtain ⟨Hx, Ix, fx, bx⟩ := Ih.rebase
      obtain ⟨bX, A', sX, fX⟩ := Ix
      have eA : A' = A := s.uniq sX fun _ _ => rfl
      subst eA
      have sW : SatL X.K G2 H' (wipe σ (own.map (·.2))) (wipeG Γ (own.map (·.2))) A' := s.wipe no
      have s3 : SatL X.K G2 H' (puts (wipe σ (own.map (·.2))) js vs) (putsG (wipeG Γ (own.map (·.2))) js parts) A' := sW.putsF av hnd fun j hj o => wipeG_none (hsub j hj) o
      have I3 : InvS X.K G2 Hx G2 H' (puts (wipe σ (own.map (·.2))) js vs) (putsG (wipeG Γ (own.map (·.2))) js parts) := ⟨bX, A', s3, fX⟩
      have htake : xs.take (n + 1) = xs.take n ++ [xs[n]] := by rw [List.take_add_one, hxa]; rfl
      intro s'' Hs' C' cl' fp'
      obtain ⟨hT, hE⟩ := hb s'' Hs' C' cl' fp'
      refine hT G2 Hx G2 H' _ I3 _ fun G4 H4 g4 h4 I4 => ?_
      cases hk : p xs[n] with
      | false =>
        rw [if_neg Bool.false_ne_true]
        obtain ⟨r1, _⟩ := lc_grow b s fa hD2 gD2 rD' fD nD bx s3 I4 h4
        refine ⟨G4, g2.trans g4, h2.trans h4, ?_⟩
        rw [htake, List.filter_append, List.filter_cons_of_neg (by simp [hk])]
        simpa using r1
      | true =>
        rw [if_pos rfl]
        intro s5 Hs5 C5 cl5 fp5
        obtain ⟨_, hE⟩ := hb s5 Hs5 C5 cl5 fp5
        refine hE hk G2 Hx G4 H4 _ I4 _ fun w G5 H5 g5 h5 r5 => ?_
        obtain ⟨_, r6⟩ := lc_grow b s fa hD2 gD2 rD' fD nD bx s3 r5.s (h4.trans h5)
        refine ⟨acc, (h4.trans h5) _ _ hD2, szlt ?_, G5, g2.trans (g4.trans g5), ?_, ?_⟩
        · rw [dps_len rD', List.length_map]
          refine Nat.lt_of_le_of_lt (Nat.le_trans (List.length_filter_le _ _) ?_) hz
          rw [List.length_take]; omega
        · exact same_mut (h2.trans (h4.trans h5)) hD
        · rw [htake, List.filter_append, List.filter_cons_of_pos (by simp [hk]), List.filter_nil, List.map_append]
          exact r6 w (f xs[n]) (leaf_inv r5)
    · have en : n = xs.length := by omega
      subst en
      rw [List.take_length] at rsD rD'
      refine .inl ⟨wk2.st _ H2 (by rw [List.length_map]; exact Nat.le_refl _) h2, q _ G2 H2 (g1.trans g2) (h1.trans h2) ⟨b, A, [D], s, fa, .lst hD2 gD2 rsD nB, fB, dB⟩⟩
/-- [elt for tg in iter if ..] -/
theorem ve_lc (own : List (Str × Nat)) {xs : List α} (enc : α → PyData) (p : α → Bool) (f : α → PyData) (hds : ds = xs.map enc) (hi : VIc X Γ tg iter ds) (no : NoOwn Γ (own.map (·.2)))
    (hg : InBlk X scope fun XB => VG XB tg js split) (hnd : js.Nodup) (hsub : ∀ j ∈ js, j ∈ own.map (·.2))
    (hs : ∀ a ∈ xs, ∃ parts, split (enc a) = some parts ∧ (InBlk X scope fun XB => VTs XB (putsG (wipeG Γ (own.map (·.2))) js parts) ifs (p a) ∧ (p a = true → VD XB (putsG (wipeG Γ (own.map (·.2))) js parts) elt (f a))))
    (hz : xs.length < 1000000) (hN : X.N.Nodup) (ok : BlkOk X.N X.env.scope scope own) (hc : X.calm = true := by rfl) (hf : ∀ x, foldedSetIterable iter X.env x = pure x := by intro _; rfl) :
    VE X Γ (.ListComp elt [⟨tg, iter, ifs, 0⟩] scope pos) (.lst (lfs ((xs.filter p).map f))) := fun G0 H0 G H σ I Q q =>
  ⟨_, pe_lc (own := own) hc hN ⟨fun pins s σ H R I ⟨_, p, h⟩ => p.run pins s σ H R I h⟩ ok (fun s H C cl fp => ⟨fun pins s' σ H' v u Q I r h => (runG _ tg).run pins s' σ H' v u Q I r (h s H C cl fp)⟩)
    (fun s H C cl fp => ⟨fun pins s' σ H' Q I h => (runTs _ ifs).run pins s' σ H' Q I (h s H C cl fp)⟩) (fun s H C cl fp => ⟨fun pins s' σ H' Q I h => (runE _ elt).run pins s' σ H' Q I (h s H C cl fp)⟩) hf,
    lc_core3 own enc p f hds hi no hg hnd hsub hs hz I q⟩
/-- y = [elt for ..] -/
theorem vs_setLc {D : Dn} {y : Str} {py spos : Pos} (k : Nat) (own : List (Str × Nat)) {xs : List α} (enc : α → PyData) (p : α → Bool) (f : α → PyData) (hds : ds = xs.map enc) (hi : VIc X Γ tg iter ds) (no : NoOwn Γ (own.map (·.2)))
    (hg : InBlk X scope fun XB => VG XB tg js split) (hnd : js.Nodup) (hsub : ∀ j ∈ js, j ∈ own.map (·.2))
    (hs : ∀ a ∈ xs, ∃ parts, split (enc a) = some parts ∧ (InBlk X scope fun XB => VTs XB (putsG (wipeG Γ (own.map (·.2))) js parts) ifs (p a) ∧ (p a = true → VD XB (putsG (wipeG Γ (own.map (·.2))) js parts) elt (f a))))
    (hz : xs.length < 1000000) (hD : D.nx (Γ.set k (some (.lst (lfs ((xs.filter p).map f)))))) (hN : X.N.Nodup) (ok : BlkOk X.N X.env.scope scope own) (hy : X.N[k]? = some y := by rfl) (hyl : X.env.scope.names.lookup y = some .local := by rfl)
    (hsw : swapsWith (.ListComp elt [⟨tg, iter, ifs, 0⟩] scope pos) (some (.Name y py)) spos.line X.env = pure true := by exact sw_true rfl rfl rfl (by decide +kernel)) (hc : X.calm = true := by rfl) (hf : ∀ x, foldedSetIterable iter X.env x = pure x := by intro _; rfl) :
    VS X (.Assign [.Name y py] (.ListComp elt [⟨tg, iter, ifs, 0⟩] scope pos) spos) D Γ := fun G0 H0 G H σ I D0 L =>
  ⟨_, ps_setLc (own := own) hc hN hy hyl hsw ⟨fun pins s σ H R I ⟨_, p, h⟩ => p.run pins s σ H R I h⟩ ok (fun s H C cl fp => ⟨fun pins s' σ H' v u Q I r h => (runG _ tg).run pins s' σ H' v u Q I r (h s H C cl fp)⟩)
    (fun s H C cl fp => ⟨fun pins s' σ H' Q I h => (runTs _ ifs).run pins s' σ H' Q I (h s H C cl fp)⟩) (fun s H C cl fp => ⟨fun pins s' σ H' Q I h => (runE _ elt).run pins s' σ H' Q I (h s H C cl fp)⟩) hf,
    lc_core3 own enc p f hds hi no hg hnd hsub hs hz I fun v G' H' g h r => L.nx hD (r.put k)⟩
end

/-! ### a def -/
def startG (N : List Str) (ds : List PyData) : Env' := ds.map (fun d => some (.leaf d)) ++ List.replicate (N.length - ds.length) none
theorem satL_none {K : Fg} {G H : Hp} : ∀ n : Nat, SatL K G H (List.replicate n none) (List.replicate n none) []
  | 0 => .nil
  | n + 1 => .skip (satL_none n)
theorem satL_leafs {K : Fg} {G H : Hp} {n : Nat} : ∀ {vs : List V} {ds : List PyData}, Rps K G vs ds → SatL K G H (vs.map some ++ List.replicate n none) (ds.map (fun d => some (OT.leaf d)) ++ List.replicate n none) []
  | _, _, .nil => satL_none n
  | _, _, .cons a b => SatL.one (A := []) (B := []) (.leaf a) (satL_leafs b) (fun _ h => nomatch h)
theorem start_inv {K : Fg} {G H : Hp} {N : List Str} {vs : List V} {ds : List PyData} (e : Same G H) (a : Rps K G vs ds) : InvS K G H G H (L2.start N vs) (startG N ds) := by
  refine ⟨Base.refl e, [], ?_, fun _ h => nomatch h⟩
  unfold L2.start startG
  rw [dps_len a]
  exact satL_leafs a
section
variable {P : Program} {w : World} {K : Fg} {mg : Str → Option Value} {base : Heap}
abbrev Fd (K : Fg) (x : Str) (st : Stmt) (f : Addr) (fd : FuncData) : Prop := FunD K x x (defArgs st) (defBody st) (defScope st) [] [] f fd
/-- the context of a def's body -/
abbrev bodyCx (P : Program) (w : World) (K : Fg) (mg : Str → Option Value) (base : Heap) (N : List Str) (x : Str) (st : Stmt) (f : Addr) (cdv : Value) (A : Around) (outer : List Env) (s : Shared) (H : Hp) (E : XK) : Cx :=
  (cxOf CX0 P w K mg base N x (defScope st) f cdv A outer s H E).nox
theorem fn_ok {x : Str} {st : Stmt} {f : Addr} {fd : FuncData} {N ps : List Str} {k : Nat} {pre : List PyData → OT → Prop} (F : Fd K x st f fd) (S : FnScope N ps (defScope st)) (hlen : ∀ ds o, pre ds o → ds.length = ps.length)
    (body : ∀ (cdv : Value) (A : Around) (outer : List Env) (s : Shared) (H : Hp) (E : XK), Room k (A.deeper (envOfC x (defScope st) s.heap.objs.size f cdv)) → ∀ ds o, pre ds o →
      VK' (bodyCx P w K mg base N x st f cdv A outer s H E) (defBody st) { nx := fun _ => o = .leaf .none, rt := fun o' => o' = o } (startG N ds)) : FnOk P w K mg base CX0 (k + 1) f fd ps (SpD K pre) := by
  refine F.ok S (fun vs H Q E h => ?_) (fun cdv A outer s H vs Q E hr h => ?_)
  · obtain ⟨G, ds, o, e, a, hp, _⟩ := h
    rw [dps_len a]
    exact hlen ds o hp
  · obtain ⟨G, ds, o, e, a, hp, q⟩ := h
    have B := body cdv A outer s H E hr ds o hp
    obtain ⟨t, pt, ht⟩ := B G H G H (L2.start N vs) (start_inv e a) { nx := fun _ H' => Q .non H', rt := Q } ⟨fun {Γ G' H' σ} n I => by
        have n' : o = .leaf .none := n
        subst n'
        exact q .non G' H' [] I.1 (.leaf .non) (fun _ h => nomatch h), fun n _ => n.elim, fun n _ => n.elim, fun {o' v G' H' B'} n b r f' => by
        have n' : o' = o := n
        subst n'
        exact q v G' H' B' b r f'⟩
    exact ⟨t, pt.nox, ht⟩
theorem cal_of {x : Str} {st : Stmt} {f : Addr} {fd : FuncData} {ps : List Str} {k : Nat} {sp : Sp} (F : Fd K x st f fd) (ok : FnOk P w K mg base CX0 k f fd ps sp) (hm : mg x = some (.ref f)) (hb : Binds K fd ps []) : Cal P w K mg base k x ps.length sp :=
  ⟨f, fd, ps, ok, hm, F.kp, hb, rfl⟩
theorem Cal.mono {x : Str} {k k' n : Nat} {sp : Sp} (C : Cal P w K mg base k x n sp) (h : k ≤ k') : Cal P w K mg base k' x n sp := by
  obtain ⟨f, fd, ps, F, r⟩ := C.ex
  exact ⟨f, fd, ps, F.mono h, r⟩
theorem roomy {X : Cx} {k : Nat} (hr : Room k X.A) : Roomy X := by
  have := hr.units
  unfold Roomy
  omega
end
end V3

namespace V3
open PySem PySem.Spec PyProof.Rows L2

/-! ### how values are written as data -/
abbrev eI : Int → PyData := PyData.int
abbrev eB : Bool → PyData := PyData.bool
abbrev eS : Str → PyData := PyData.str
abbrev eD : PyData → PyData := fun d => d
abbrev eL {α : Type} (e : α → PyData) : List α → PyData := fun xs => .list (xs.map e)
abbrev e2 {α β : Type} (ea : α → PyData) (eb : β → PyData) : α × β → PyData := fun p => .tuple [ea p.1, eb p.2]
abbrev e3 {α β γ : Type} (ea : α → PyData) (eb : β → PyData) (ec : γ → PyData) : α × β × γ → PyData := fun p => .tuple [ea p.1, eb p.2.1, ec p.2.2]
abbrev e4 {α β γ δ : Type} (ea : α → PyData) (eb : β → PyData) (ec : γ → PyData) (ed : δ → PyData) : α × β × γ × δ → PyData := fun p => .tuple [ea p.1, eb p.2.1, ec p.2.2.1, ed p.2.2.2]
abbrev eT {α : Type} (e : α → PyData) : List α → PyData := fun xs => .tuple (xs.map e)
abbrev eO {α : Type} (e : α → PyData) : Option α → PyData := fun x => match x with
  | none => .none
  | some a => e a
/-- == upon such data is =, and data are not deep -/
structure GE {α : Type} [DecidableEq α] (e : α → PyData) (n : Nat) : Prop where
  eq : ∀ x y, PyData.eqv (e x) (e y) = decide (x = y)
  lay : ∀ x, (e x).canLay0 = true
  dep : ∀ x, (e x).depth ≤ n
theorem GE.shaped {α : Type} [DecidableEq α] {e : α → PyData} {n : Nat} (g : GE e n) (hn : n ≤ 64 := by decide) (x : α) : SeqAt.shaped (e x) = true := by
  unfold SeqAt.shaped
  rw [g.lay x, Bool.true_and]
  exact decide_eq_true (Nat.le_trans (g.dep x) hn)
theorem geI : GE eI 0 := ⟨fun x y => by simp [PyData.eqv, Bool.beq_eq_decide_eq], fun _ => rfl, fun _ => Nat.le_refl _⟩
theorem geB : GE eB 0 := ⟨fun x y => by simp [PyData.eqv, Bool.beq_eq_decide_eq], fun _ => rfl, fun _ => Nat.le_refl _⟩
theorem eqvAll_map {α : Type} [DecidableEq α] {e : α → PyData} {n : Nat} (g : GE e n) : ∀ xs ys : List α, PyData.eqvAll (xs.map e) (ys.map e) = decide (xs = ys)
  | [], [] => by simp [PyData.eqvAll]
  | [], y :: ys => by simp [PyData.eqvAll]
  | x :: xs, [] => by simp [PyData.eqvAll]
  | x :: xs, y :: ys => by
    rw [List.map_cons, List.map_cons, PySem.W.eqv_all_cons, g.eq, eqvAll_map g xs ys]
    by_cases h1 : x = y <;> by_cases h2 : xs = ys <;> simp [h1, h2]
theorem layAll_map {α : Type} [DecidableEq α] {e : α → PyData} {n : Nat} (g : GE e n) : ∀ xs : List α, PyData.canLayAll0 (xs.map e) = true
  | [] => rfl
  | x :: xs => by rw [List.map_cons, PyData.canLayAll0, g.lay, layAll_map g xs]; rfl
theorem depAll_map {α : Type} [DecidableEq α] {e : α → PyData} {n : Nat} (g : GE e n) : ∀ xs : List α, PyData.depthAll (xs.map e) ≤ n
  | [] => by simp [PyData.depthAll]
  | x :: xs => by
    rw [List.map_cons, PyData.depthAll]
    exact Nat.max_le.mpr ⟨g.dep x, depAll_map g xs⟩
theorem geL {α : Type} [DecidableEq α] {e : α → PyData} {n : Nat} (g : GE e n) : GE (eL e) (n + 1) :=
  ⟨fun x y => by show PyData.eqv (.list _) (.list _) = _; rw [PyData.eqv]; exact eqvAll_map g x y, fun x => by show PyData.canLay0 (.list _) = _; rw [PyData.canLay0]; exact layAll_map g x, fun x => by show PyData.depth (.list _) ≤ _; rw [PyData.depth]; exact Nat.succ_le_succ (depAll_map g x)⟩
theorem geT {α : Type} [DecidableEq α] {e : α → PyData} {n : Nat} (g : GE e n) : GE (eT e) (n + 1) :=
  ⟨fun x y => by show PyData.eqv (.tuple _) (.tuple _) = _; rw [PyData.eqv]; exact eqvAll_map g x y, fun x => by show PyData.canLay0 (.tuple _) = _; rw [PyData.canLay0]; exact layAll_map g x, fun x => by show PyData.depth (.tuple _) ≤ _; rw [PyData.depth]; exact Nat.succ_le_succ (depAll_map g x)⟩
theorem ge2 {α β : Type} [DecidableEq α] [DecidableEq β] {ea : α → PyData} {eb : β → PyData} {n m : Nat} (ga : GE ea n) (gb : GE eb m) : GE (e2 ea eb) (n + m + 1) :=
  ⟨fun x y => by
    obtain ⟨x1, x2⟩ := x
    obtain ⟨y1, y2⟩ := y
    show PyData.eqv (.tuple [_, _]) (.tuple [_, _]) = _
    rw [PyData.eqv, PySem.W.eqv_all_cons, PySem.W.eqv_all_cons, ga.eq, gb.eq, PyData.eqvAll]
    by_cases h1 : x1 = y1 <;> by_cases h2 : x2 = y2 <;> simp [h1, h2],
  fun x => by show PyData.canLay0 (.tuple [_, _]) = _; rw [PyData.canLay0, PyData.canLayAll0, PyData.canLayAll0, ga.lay, gb.lay]; rfl,
  fun x => by
    show PyData.depth (.tuple [_, _]) ≤ _
    rw [PyData.depth, PyData.depthAll, PyData.depthAll, PyData.depthAll]
    have := ga.dep x.1
    have := gb.dep x.2
    omega⟩
theorem ge3 {α β γ : Type} [DecidableEq α] [DecidableEq β] [DecidableEq γ] {ea : α → PyData} {eb : β → PyData} {ec : γ → PyData} {n m k : Nat} (ga : GE ea n) (gb : GE eb m) (gc : GE ec k) : GE (e3 ea eb ec) (n + m + k + 1) :=
  ⟨fun x y => by
    obtain ⟨x1, x2, x3⟩ := x
    obtain ⟨y1, y2, y3⟩ := y
    show PyData.eqv (.tuple [_, _, _]) (.tuple [_, _, _]) = _
    rw [PyData.eqv, PySem.W.eqv_all_cons, PySem.W.eqv_all_cons, PySem.W.eqv_all_cons, ga.eq, gb.eq, gc.eq, PyData.eqvAll]
    by_cases h1 : x1 = y1 <;> by_cases h2 : x2 = y2 <;> by_cases h3 : x3 = y3 <;> simp [h1, h2, h3],
  fun x => by show PyData.canLay0 (.tuple [_, _, _]) = _; rw [PyData.canLay0, PyData.canLayAll0, PyData.canLayAll0, PyData.canLayAll0, ga.lay, gb.lay, gc.lay]; rfl,
  fun x => by
    show PyData.depth (.tuple [_, _, _]) ≤ _
    rw [PyData.depth, PyData.depthAll, PyData.depthAll, PyData.depthAll, PyData.depthAll]
    have := ga.dep x.1
    have := gb.dep x.2.1
    have := gc.dep x.2.2
    omega⟩
theorem flat_map {α : Type} {e : α → PyData} (h : ∀ a, flatD (e a) = true) (xs : List α) : (xs.map e).all flatD = true := by
  rw [List.all_map, List.all_eq_true]
  exact fun a _ => h a

/-! ### sorted, any data that are alike -/
def rSortD (K : Fg) : List V → Hp → VK → Prop := fun vs H Q => ∃ (a : Addr) (xs : List V) (ds : List PyData) (G : Hp), vs = [.ref a] ∧ H a = some (.lst xs) ∧ Same G H ∧ Rps K G xs ds ∧ PySem.W.AllAlike ds ∧ PySem.W.Sortable ds ∧ (∀ d ∈ ds, d.depth ≤ 50) ∧
  ∀ ys p, Rps K G ys (ds.mergeSort (PySem.W.dataLe false fun d => d)) → H p = none → Q (.ref p) (upd H p (.lst ys))
theorem each_of {K : Fg} {G : Hp} : ∀ {vs : List V} {us : List Value} {ds : List PyData}, Vals vs us → Rps K G vs ds → PySem.W.EachIs (fun u d => ∃ v, RelV v u ∧ Rp K G v d) us ds
  | _, _, _, .nil, .nil => .nil
  | _, _, _, .cons r t, .cons a b => .cons ⟨_, r, a⟩ (each_of t b)
theorem of_each {K : Fg} {G : Hp} : ∀ {us : List Value} {ds : List PyData}, PySem.W.EachIs (fun u d => ∃ v, RelV v u ∧ Rp K G v d) us ds → ∃ vs, Vals vs us ∧ Rps K G vs ds
  | _, _, .nil => ⟨[], .nil, .nil⟩
  | _, _, .cons ⟨v, r, a⟩ t => by
    obtain ⟨vs, h1, h2⟩ := of_each t
    exact ⟨v :: vs, .cons r h1, .cons a h2⟩
theorem cr_sortD {X : Cx} (hu : X.A.units + 64 < cLine) : CallR X (.builtin "sorted") (rSortD X.K) := by
  intro pins s σ H vs us Q I r h
  obtain ⟨a, xs, ds, G, rfl, hs, e, rp, hal, hk, hdep, q⟩ := h
  obtain ⟨its, rv, hl, hz⟩ := I.list (.of hs)
  rw [Vals.ref1 r]
  have ec := each_of rv rp
  have er : PySem.W.EachIs (fun v b => ∃ as, Reads s.heap v ((fun d : PyData => d) b) as) its ds := ec.mono fun u d ⟨v, r', h'⟩ => Dp.reads I d v u (dp_mono e h').dp r'
  have hmap : ds.map (fun d : PyData => d) = ds := List.map_id ds
  refine PySem.W.sorted_data hl.isList ec er (by rw [hmap]; exact hal) (by rw [hmap]; exact hk) (by rw [← dps_len rp]; exact hz) (fun d hd => by have := hdep d hd; show X.A.units + 2 + d.depth < cLine; omega) fun out ho eo => ?_
  obtain ⟨ys, h1, h2⟩ := of_each eo
  obtain ⟨ep, he'⟩ := PyProof.Rows.sortedAll_at s.heap its out.toArray
  have hlen : ys.length ≤ sizeLine := by rw [h1.length, ho, ← dps_len rp]; exact hz
  exact ⟨.ref _, upd H (s.heap.objs.size + 1) (.lst ys), I.laid (t' := s.toks) (fun _ _ => PyProof.Rows.sortedAll_old) (Nat.le_succ _) ⟨hlen, out, ep, h1, he'⟩, rfl, q _ _ h2 (I.hok.fresh (Nat.le_succ _))⟩

section
variable {X : Cx} {Γ Γ' Γ1 : Env'} {e a b c : Expr} {pos : Pos} {i j : Int} {d : PyData} {ds : List PyData} {o : OT} {os : List OT} {α β γ : Type} {en : α → PyData} {xs ys : List α}
theorem ve_sorted {p : Pos} (hu : Roomy X) (ha : VL X Γ a ds) (hal : PySem.W.AllAlike ds) (hk : PySem.W.Sortable ds) (hd : ∀ d ∈ ds, d.depth ≤ 50) (hm : X.mg "sorted" = none) (hg : Gl X "sorted" := by rfl) (he : starEach [a] X.env = [(false, eval a X.env)] := by rfl) :
    VE X Γ (.Call (.Name "sorted" p) [a] [] pos) (.lst (lfs (ds.mergeSort (PySem.W.dataLe false fun d => d)))) := fun G0 H0 G H σ I Q q =>
  ⟨_, pe_callB (cr_sortD hu) hg hm (by decide +kernel) (runA X [a]) (by decide) (by decide) he (by rfl), run_view1 (P := fun _ _ _ => True) (G := G) he (ha G0 H0 G H σ I _ fun p vs G1 H1 g1 h1 I1 hp a1 =>
    ⟨p, vs, ds, G1, rfl, hp, I1.i, a1, hal, hk, hd, fun ys l ry hl => q _ G1 _ g1 (h1.trans (same_new hl)) (new_list I1 ry hl)⟩)⟩
/-- .. typed: le is Python's order of these data -/
structure SE {α : Type} (e : α → PyData) (le : α → α → Bool) : Prop where
  al : ∀ x y, PySem.W.alike (e x) (e y) = true
  so : ∀ xs : List α, PySem.W.Sortable (xs.map e)
  dep : ∀ x, (e x).depth ≤ 50
  le : ∀ x y, PySem.W.dataLe false (fun d => d) (e x) (e y) = le x y
theorem ve_sortE {le : α → α → Bool} {p : Pos} (hu : Roomy X) (g : SE en le) (ha : VL X Γ a (xs.map en)) (hm : X.mg "sorted" = none) (hg : Gl X "sorted" := by rfl) (he : starEach [a] X.env = [(false, eval a X.env)] := by rfl) :
    VE X Γ (.Call (.Name "sorted" p) [a] [] pos) (.lst (lfs ((xs.mergeSort le).map en))) := by
  have h := ve_sorted (pos := pos) (p := p) hu ha (PySem.W.AllAlike.of g.al) (g.so xs) (fun d hd => by
    obtain ⟨x, _, rfl⟩ := List.mem_map.mp hd
    exact g.dep x) hm hg he
  rw [← PySem.W.sort_maps (r := le) (s := PySem.W.dataLe false fun d => d) en (fun x _ y _ => (g.le x y).symm)] at h
  exact h
theorem seI : SE eI fun x y => decide (x ≤ y) :=
  ⟨fun _ _ => rfl, fun xs => PySem.W.Sortable.others fun b => ⟨(fun h => nomatch h), fun _ h => nomatch h⟩, fun _ => by simp [PyData.depth], fun x y => congrFun (congrFun (PySem.W.dataLe_int (β := Int) fun b => b) x) y⟩
def leP (p q : Int × Int) : Bool := decide (p.1 < q.1 ∨ (p.1 = q.1 ∧ p.2 ≤ q.2))
theorem seP : SE (e2 eI eI) leP :=
  ⟨fun _ _ => rfl, fun xs => PySem.W.Sortable.tuples fun b => ⟨_, _, rfl⟩, fun x => by simp [PyData.depth, PyData.depthAll], fun x y => congrFun (congrFun (PySem.W.dataLe_ii (β := Int × Int) (fun p => p.1) (fun p => p.2)) x) y⟩
theorem seR : SE (eL eI) fun x y => decide (x ≤ y) :=
  ⟨fun x y => by show PySem.W.alike (.list _) (.list _) = true; rw [PySem.W.alike]; exact PySem.W.alike_ints x y, fun xs => PySem.W.Sortable.others fun b => ⟨(fun h => nomatch h), fun _ h => nomatch h⟩,
   fun x => by show PyData.depth (.list _) ≤ 50; rw [PyData.depth, PySem.W.depth_ints]; omega, fun x y => congrFun (congrFun (PySem.W.dataLe_rows (β := List Int) fun b => b) x) y⟩

/-! ### names, by the slot's number -/
theorem vn (k : Nat) {x : Str} (hs : Γ[k]? = some (some (.leaf d)) := by rfl) (hN : X.N[k]? = some x := by rfl) (hv : Vis X.env.scope x := by first | exact Or.inl rfl | exact Or.inr (Or.inl rfl) | exact Or.inr (Or.inr rfl))
    (hd : (x == ("__debug__" : Str)) = false := by decide) (hcd : (x == ("__classdict__" : Str)) = false := by decide) : VD X Γ (.Name x pos) d := ve_var hs hN hv hd hcd
theorem vo (k : Nat) {x : Str} (hs : Γ[k]? = some (some (.lst (lfs ds))) := by rfl) (hN : X.N[k]? = some x := by rfl) (hv : Vis X.env.scope x := by first | exact Or.inl rfl | exact Or.inr (Or.inl rfl) | exact Or.inr (Or.inr rfl))
    (hd : (x == ("__debug__" : Str)) = false := by decide) (hcd : (x == ("__classdict__" : Str)) = false := by decide) : VL X Γ (.Name x pos) ds := vl_var hs hN hv hd hcd
theorem vmv (k : Nat) {x : Str} (hs : Γ[k]? = some (some o) := by rfl) (hN : X.N[k]? = some x := by rfl) (hv : Vis X.env.scope x := by first | exact Or.inl rfl | exact Or.inr (Or.inl rfl) | exact Or.inr (Or.inr rfl))
    (hd : (x == ("__debug__" : Str)) = false := by decide) (hcd : (x == ("__classdict__" : Str)) = false := by decide) : VM X Γ (.Name x pos) o (Γ.set k none) := vm_var hs hN hv hd hcd
/-- a list that holds data, seen as a list -/
theorem VM.ls (h : VM X Γ e (.leaf (.list ds)) Γ) : VL X Γ e ds := h.l
theorem vlenE {p : Pos} (ha : VL X Γ a (xs.map en)) (hm : X.mg "len" = none) (hg : Gl X "len" := by rfl) (he : starEach [a] X.env = [(false, eval a X.env)] := by rfl) : VD X Γ (.Call (.Name "len" p) [a] [] pos) (.int xs.length) := by
  have h := ve_len (pos := pos) (p := p) ha.v hm hg he
  rw [List.length_map] at h
  exact h
theorem atI_map {α : Type} {en : α → PyData} {xs : List α} {i : Int} {x : α} (h0 : 0 ≤ i) (h : xs[i.toNat]? = some x) : atI (xs.map en) i = some (en x) := by
  have e : i = ((i.toNat : Nat) : Int) := by omega
  rw [e]
  refine atI_nat ?_
  rw [List.getElem?_map, h]; rfl
/-- xs[i], i within -/
theorem vixE (dft : α) (ha : VL X Γ a (xs.map en)) (hb : VD X Γ b (.int i)) (h : 0 ≤ i ∧ i.toNat < xs.length) (hs : PlainIx b := by exact fun _ _ => rfl) : VD X Γ (.Subscript a b pos) (en (xs.getD i.toNat dft)) :=
  ve_ix ha hb (atI_map h.1 (by rw [List.getElem?_eq_getElem h.2, List.getD_eq_getElem?_getD, List.getElem?_eq_getElem h.2]; rfl)) hs
/-- xs[-1] -/
theorem vixL (dft : α) (ha : VL X Γ a (xs.map en)) (hb : VD X Γ b (.int (-1))) (h : xs ≠ []) (hs : PlainIx b := by exact fun _ _ => rfl) : VD X Γ (.Subscript a b pos) (en (xs.getLast?.getD dft)) := by
  refine ve_ix ha hb ?_ hs
  obtain ⟨ys, y, rfl⟩ : ∃ ys y, xs = ys ++ [y] := ⟨xs.dropLast, xs.getLast h, (List.dropLast_concat_getLast h).symm⟩
  rw [List.map_append]
  show atI (ys.map en ++ [en y]) (-1) = _
  rw [atI_last]
  simp
/-- t[k] of a tuple -/
theorem vixT (ha : VD X Γ a (.tuple ds)) (hb : VD X Γ b (.int i)) (h : atI ds i = some d := by rfl) (hs : PlainIx b := by exact fun _ _ => rfl) : VD X Γ (.Subscript a b pos) d := ve_ixT ha.t hb h hs
/-! slices -/
theorem cutD_map {α : Type} {en : α → PyData} {xs : List α} {lo hi : Option Int} : cutD (xs.map en) lo hi = (cutD xs lo hi).map en := by
  unfold cutD
  rw [List.length_map, List.map_take, List.map_drop]
theorem cutD_to {α : Type} (xs : List α) (i : Int) (h : 0 ≤ i) : cutD xs none (some i) = xs.take i.toNat := by
  obtain ⟨k, rfl⟩ : ∃ k : Nat, i = (k : Int) := ⟨i.toNat, by omega⟩
  unfold cutD
  rw [HT.sIx_nat, HT.sIx_none]
  simp [List.take_eq_take_iff]
theorem cutD_from {α : Type} (xs : List α) (i : Int) (h : 0 ≤ i) : cutD xs (some i) none = xs.drop i.toNat := by
  obtain ⟨k, rfl⟩ : ∃ k : Nat, i = (k : Int) := ⟨i.toNat, by omega⟩
  unfold cutD
  rw [HT.sIx_nat, HT.sIx_none]
  simp only [Int.toNat_natCast]
  by_cases hk : k ≤ xs.length
  · rw [Nat.min_eq_left hk, List.take_of_length_le (by simp)]
  · rw [Nat.min_eq_right (by omega)]
    simp [List.drop_eq_nil_of_le (show xs.length ≤ k by omega)]
theorem cutD_mid {α : Type} (xs : List α) (i j : Int) (h : 0 ≤ i) (h' : 0 ≤ j) : cutD xs (some i) (some j) = (xs.take j.toNat).drop i.toNat := by
  obtain ⟨k, rfl⟩ : ∃ k : Nat, i = (k : Int) := ⟨i.toNat, by omega⟩
  obtain ⟨l, rfl⟩ : ∃ k : Nat, j = (k : Int) := ⟨j.toNat, by omega⟩
  unfold cutD
  rw [HT.sIx_nat, HT.sIx_nat]
  simp only [Int.toNat_natCast]
  rw [List.drop_take]
  by_cases hk : k ≤ xs.length
  · rw [Nat.min_eq_left hk]
    by_cases hl : l ≤ xs.length
    · rw [Nat.min_eq_left hl]
    · rw [Nat.min_eq_right (by omega), List.take_of_length_le (by simp), List.take_of_length_le (by simp; omega)]
  · rw [Nat.min_eq_right (show xs.length ≤ k by omega)]
    simp [List.drop_eq_nil_of_le (show xs.length ≤ k by omega)]
theorem cutD_init {α : Type} (xs : List α) : cutD xs none (some (-1)) = xs.dropLast := by
  unfold cutD
  have e : HT.sIx xs.length xs.length (some (-1)) = xs.length - 1 := by
    show (if (-1 : Int) < 0 then ((-1 : Int) + (xs.length : Int)).toNat else min (-1 : Int).toNat xs.length) = _
    rw [if_pos (by decide)]; omega
  rw [e, HT.sIx_none]
  simp [List.dropLast_eq_take]
theorem vslE {lo hi : Option Expr} {l u : Option Int} {p2 : Pos} {zs : List α} (ha : VL X Γ a (xs.map en)) (hl : VP X Γ lo l) (hu : VP X Γ hi u) (h : cutD xs l u = zs) : VE X Γ (.Subscript a (.Slice lo hi none p2) pos) (.lst (lfs (zs.map en))) := by
  have := ve_slice (pos := pos) (p2 := p2) ha hl hu
  rw [cutD_map, h] at this
  exact this
theorem vrevE {k : Nat} {p1 p2 p3 : Pos} (ha : VL X Γ a (xs.map en)) : VE X Γ (.Subscript a (.Slice none none (some (.UnaryOp .USub (.Constant (.int 1) k p1) p2)) p3) pos) (.lst (lfs (xs.reverse.map en))) := by
  have := ve_revL (pos := pos) (k := k) (p1 := p1) (p2 := p2) (p3 := p3) ha
  rw [← List.map_reverse] at this
  exact this
theorem vcatE (ha : VL X Γ a (xs.map en)) (hb : VL X Γ b (ys.map en)) (hz : xs.length + ys.length ≤ 1000000) : VE X Γ (.BinOp a .Add b pos) (.lst (lfs ((xs ++ ys).map en))) := by
  have := ve_cat (pos := pos) ha hb (by simpa using hz)
  rw [← List.map_append] at this
  exact this
/-- [x] * n -/
theorem vrepE {x : α} (ha : VL X Γ a ([x].map en)) (hb : VD X Γ b (.int i)) (h : -1000000 ≤ i ∧ i ≤ 1000000) : VE X Γ (.BinOp a .Mult b pos) (.lst (lfs ((List.replicate i.toNat x).map en))) := by
  have := ve_rep (pos := pos) ha hb h.2 h.1 (by simp; omega)
  rw [show (List.replicate i.toNat ([x].map en)).flatten = (List.replicate i.toNat x).map en by
    rw [List.map_replicate]
    induction i.toNat with
    | zero => rfl
    | succ k ih => rw [List.replicate_succ, List.replicate_succ, List.flatten_cons, ih]; rfl] at this
  exact this
theorem vlistE {p : Pos} (ha : VL X Γ a ds) (hm : X.mg "list" = none) (hg : Gl X "list" := by rfl) (he : starEach [a] X.env = [(false, eval a X.env)] := by rfl) : VE X Γ (.Call (.Name "list" p) [a] [] pos) (.lst (lfs ds)) := ve_listOf ha hm hg he
/-! comparisons of typed data -/
theorem veqE [DecidableEq α] {n : Nat} {x y : α} (hu : Roomy X) (g : GE en n) (ha : VV X Γ a (en x)) (hb : VV X Γ b (en y)) (hn : n ≤ 64 := by decide) : VC X Γ .Eq a b (decide (x = y)) := vc_is (vc_eqD hu ha hb (g.shaped hn x) (g.shaped hn y)) (g.eq x y)
theorem vneE [DecidableEq α] {n : Nat} {x y : α} (hu : Roomy X) (g : GE en n) (ha : VV X Γ a (en x)) (hb : VV X Γ b (en y)) (hn : n ≤ 64 := by decide) : VC X Γ .NotEq a b (!decide (x = y)) := vc_is (vc_neD hu ha hb (g.shaped hn x) (g.shaped hn y)) (by rw [g.eq x y])
theorem any_eqv [DecidableEq α] {n : Nat} (g : GE en n) (x : α) (xs : List α) : ((xs.map en).any fun z => PyData.eqv z (en x)) = decide (x ∈ xs) := by
  induction xs with
  | nil => rfl
  | cons y ys ih =>
    rw [List.map_cons, List.any_cons, ih, g.eq]
    by_cases h1 : y = x
    · simp [h1]
    · have h2 : ¬ x = y := fun z => h1 z.symm
      by_cases h3 : x ∈ ys <;> simp [h1, h2, h3]
theorem vinE [DecidableEq α] {n : Nat} {x : α} (hu : Roomy X) (ho : OpR X (compareOp .In) (rInD X.K)) (g : GE en n) (ha : VV X Γ a (en x)) (hb : VV X Γ b (eL en xs)) (hm : behindInMarks .In b = false := by rfl) (hn : n + 1 ≤ 64 := by decide) : VC X Γ .In a b (decide (x ∈ xs)) :=
  vc_is (vc_inL hu ho hm ha hb (g.shaped (by omega) x) ((geL g).shaped hn xs)) (any_eqv g x xs)
theorem vninE [DecidableEq α] {n : Nat} {x : α} (hu : Roomy X) (ho : OpR X (compareOp .NotIn) (rNotInD X.K)) (g : GE en n) (ha : VV X Γ a (en x)) (hb : VV X Γ b (eL en xs)) (hm : behindInMarks .NotIn b = false := by rfl) (hn : n + 1 ≤ 64 := by decide) : VC X Γ .NotIn a b (!decide (x ∈ xs)) :=
  vc_is (vc_ninL hu ho hm ha hb (g.shaped (by omega) x) ((geL g).shaped hn xs)) (by rw [any_eqv g x xs])

/-! ### for over a range of ints, over a list; typed -/
variable {D : Dn}
theorem vs_forI {x : Str} {p : Pos} {iter : Expr} {body : List Stmt} {lo st : Int} {n : Nat} (k : Nat) (W : Nat → Env' → Prop) (hi : ∀ tg, VI X Γ tg iter (rgD lo st n)) (hN : X.N.Nodup) (h0 : W 0 Γ)
    (hs : ∀ (m : Nat) Γ', m < n → W m Γ' → VK' X body { D with nx := W (m + 1), ct := W (m + 1), bk := D.nx } (Γ'.set k (some (.leaf (.int (lo + (m : Nat) * st)))))) (hd : ∀ Γ', W n Γ' → D.nx Γ')
    (hix : X.N[k]? = some x := by rfl) (hx : Loc X.env.scope x := by first | exact Or.inl rfl | exact Or.inr rfl) (hfn : X.fn x = true ∨ X.env.scope.names.lookup x = some .local := by first | exact .inl rfl | exact .inr rfl)
    (hc : X.calm = true := by rfl) (hp : PassesOwn (model X.prog X.w) X.A X.env X.xe := by exact PassesOwn.never) (hf : ∀ x, foldedSetIterable iter X.env x = pure x := by intro _; rfl) : VS X (.For (.Name x p) iter body [] pos) D Γ :=
  vs_for W (hi _) (vg_name k hN hix hx hfn) h0 (fun m d Γ' hd' w => by
    obtain ⟨hm, rfl⟩ := rgD_get hd'
    exact ⟨_, rfl, hs m Γ' hm w⟩) (fun Γ' w => hd Γ' (by rw [rgD_len] at w; exact w)) hc hp hf
theorem vs_forE {tg iter : Expr} {body : List Stmt} {js : List Nat} {split : PyData → Option (List PyData)} (W : Nat → Env' → Prop) (hi : VI X Γ tg iter (xs.map en)) (hg : VG X tg js split) (h0 : W 0 Γ)
    (hs : ∀ (m : Nat) x Γ', xs[m]? = some x → W m Γ' → ∃ parts, split (en x) = some parts ∧ VK' X body { D with nx := W (m + 1), ct := W (m + 1), bk := D.nx } (putsG Γ' js parts)) (hd : ∀ Γ', W xs.length Γ' → D.nx Γ')
    (hc : X.calm = true := by rfl) (hp : PassesOwn (model X.prog X.w) X.A X.env X.xe := by exact PassesOwn.never) (hf : ∀ x, foldedSetIterable iter X.env x = pure x := by intro _; rfl) : VS X (.For tg iter body [] pos) D Γ :=
  vs_for W hi hg h0 (fun m d Γ' hd' w => by
    rw [List.getElem?_map] at hd'
    cases hx : xs[m]? with
    | none => rw [hx] at hd'; cases hd'
    | some x =>
      rw [hx] at hd'
      cases hd'
      exact hs m x Γ' hx w) (fun Γ' w => hd Γ' (by rw [List.length_map] at w; exact w)) hc hp hf
end
end V3

namespace V3
open PySem PySem.Spec PyProof.Rows L2
section
variable {X : Cx} {Γ Γ' Γ1 : Env'} {e a b c : Expr} {pos : Pos} {i j : Int} {d : PyData} {ds : List PyData} {o : OT} {os : List OT} {α β γ : Type} {D : Dn}
/-- x = e, the value named -/
theorem vs_setG {x : Str} {p : Pos} (k : Nat) (en : α → PyData) {v : α} (he : VM X Γ e (.leaf (en v)) Γ1) (hN : X.N.Nodup) (h : ∀ y, y = v → D.nx (Γ1.set k (some (.leaf (en y))))) (hi : X.N[k]? = some x := by rfl) (hx : Loc X.env.scope x := by first | exact Or.inl rfl | exact Or.inr rfl)
    (hsw : swapsWith e (some (.Name x p)) pos.line X.env = pure false := by rfl) (hf : X.fn x = true ∨ X.env.scope.names.lookup x = some .local := by first | exact .inl rfl | exact .inr rfl) : VS X (.Assign [.Name x p] e pos) D Γ := vs_set k he (h v rfl) hN hi hx hsw hf
/-- .. a list of one's own -/
theorem vs_setO {x : Str} {p : Pos} (k : Nat) (en : α → PyData) {v : List α} (he : VM X Γ e (.lst (lfs (v.map en))) Γ1) (hN : X.N.Nodup) (h : ∀ y, y = v → D.nx (Γ1.set k (some (.lst (lfs (y.map en)))))) (hi : X.N[k]? = some x := by rfl) (hx : Loc X.env.scope x := by first | exact Or.inl rfl | exact Or.inr rfl)
    (hsw : swapsWith e (some (.Name x p)) pos.line X.env = pure false := by rfl) (hf : X.fn x = true ∨ X.env.scope.names.lookup x = some .local := by first | exact .inl rfl | exact .inr rfl) : VS X (.Assign [.Name x p] e pos) D Γ := vs_set k he (h v rfl) hN hi hx hsw hf
/-- the ways of an if meet again -/
theorem vk_seq {st : Stmt} {rest : List Stmt} (R : Env' → Prop) (h1 : VS X st { D with nx := R } Γ) (h2 : ∀ Γ', R Γ' → VK' X rest D Γ') : VK' X (st :: rest) D Γ := fun G0 H0 G H σ I D0 L =>
  ⟨_, pss_cons (runS X st) (runB X rest), h1 G0 H0 G H σ I { D0 with nx := RunB X rest D0 } ⟨fun {Γ' G' H' σ'} k I' => h2 Γ' k G0 H0 _ _ _ I' D0 L, L.bk, L.ct, L.rt⟩⟩
variable {x : Str} {p1 p2 apos cpos : Pos}
/-- xs.append(e), typed -/
theorem vs_appE (k : Nat) (en : α → PyData) {xs : List α} {v : α} (he : VM X Γ e (.leaf (en v)) Γ1) (h0 : ∃ os', Γ[k]? = some (some (.lst os'))) (hs : Γ1[k]? = some (some (.lst (lfs (xs.map en))))) (hz : xs.length < 1000000) (h : D.nx (Γ1.set k (some (.lst (lfs ((xs ++ [v]).map en)))))) (hN : X.N[k]? = some x := by rfl)
    (hv : Vis X.env.scope x := by first | exact Or.inl rfl | exact Or.inr (Or.inl rfl) | exact Or.inr (Or.inr rfl)) (hd : (x == ("__debug__" : Str)) = false := by decide) (hcd : (x == ("__classdict__" : Str)) = false := by decide)
    (hbase : attributeBase (.Name x p1) "append" X.env (eval (.Name x p1) X.env) = eval (.Name x p1) X.env := by rfl)
    (hfew : ((backTo cpos (starEach [e] X.env)).all (fun x => !x.1) && (backToKw cpos (keywordEach [] X.env)).all (fun x => x.1.isSome) && decide ([e].length + ([] : List Keyword).length + (if ([] : List Keyword).isEmpty then 0 else 1) < 30)) = true := by rfl)
    (hline : (apos.endLine == cpos.line) = true := by rfl) (hst : starEach [e] X.env = [(false, eval e X.env)] := by rfl) (hsw : swapsWith (.Call (.Attribute (.Name x p1) "append" apos) [e] [] cpos) none pos.line X.env = pure false := by rfl) :
    VS X (.Expr (.Call (.Attribute (.Name x p1) "append" apos) [e] [] cpos) pos) D Γ :=
  vs_append k he h0 hs (by rw [lfs_len, List.length_map]; exact hz) (by
    rw [show lfs ((xs.map en)) ++ [OT.leaf (en v)] = lfs ((xs ++ [v]).map en) by simp [lfs]]
    exact h) hN hv hd hcd hbase hfew hline hst hsw
/-! typed forms -/
theorem VM.frzE {en : α → PyData} {xs : List α} (h : VM X Γ e (.lst (lfs (xs.map en))) Γ') : VM X Γ e (.leaf (eL en xs)) Γ' := h.frz
theorem VM.lsE {en : α → PyData} {xs : List α} (h : VM X Γ e (.leaf (eL en xs)) Γ) : VL X Γ e (xs.map en) := h.l
theorem VM.tsE {en : α → PyData} {xs : List α} (h : VM X Γ e (.leaf (eT en xs)) Γ) : VT X Γ e (xs.map en) := h.t
theorem VL.vE {en : α → PyData} {xs : List α} (h : VL X Γ e (xs.map en)) : VV X Γ e (eL en xs) := h.v
theorem VL.frzV {en : α → PyData} {xs : List α} (h : VL X Γ e (xs.map en)) (f : ∀ a, flatD (en a) = true) : VL X Γ e (xs.map en) := h
variable {ea : α → PyData} {eb : β → PyData} {ec : γ → PyData} {u : α} {v : β} {z : γ}
theorem vtup2 {k : Nat} (ha : VD X Γ a (ea u)) (hb : VD X Γ b (eb v)) (hs : starEach [a, b] X.env = (false, eval a X.env) :: starEach [b] X.env := by rfl) (hs1 : starEach [b] X.env = [(false, eval b X.env)] := by rfl) : VD X Γ (.Tuple [a, b] k pos) (e2 ea eb (u, v)) :=
  ve_tupL (va_cons ha (va_cons hb va_nil hs1) hs) (by simp)
theorem vtup3 {k : Nat} (ha : VD X Γ a (ea u)) (hb : VD X Γ b (eb v)) (hc : VD X Γ c (ec z)) (hs : starEach [a, b, c] X.env = (false, eval a X.env) :: starEach [b, c] X.env := by rfl) (hs1 : starEach [b, c] X.env = (false, eval b X.env) :: starEach [c] X.env := by rfl) (hs2 : starEach [c] X.env = [(false, eval c X.env)] := by rfl) : VD X Γ (.Tuple [a, b, c] k pos) (e3 ea eb ec (u, v, z)) :=
  ve_tupL (va_cons ha (va_cons hb (va_cons hc va_nil hs2) hs1) hs) (by simp)
/-- [a, b, ..] of one kind -/
def VAE (X : Cx) (Γ : Env') (es : List Expr) (en : α → PyData) (xs : List α) : Prop := VA X Γ es (xs.map en)
theorem vae_nil (en : α → PyData) : VAE X Γ [] en [] := va_nil
theorem vae_cons {es : List Expr} {en : α → PyData} {x : α} {xs : List α} (h : VD X Γ a (en x)) (h' : VAE X Γ es en xs) (hs : starEach (a :: es) X.env = (false, eval a X.env) :: starEach es X.env := by rfl) : VAE X Γ (a :: es) en (x :: xs) := va_cons h h' hs
theorem vdispE {es : List Expr} {en : α → PyData} {xs : List α} (h : VAE X Γ es en xs) (hl : xs.length ≤ 1000000 := by simp) : VE X Γ (.List es pos) (.lst (lfs (xs.map en))) := ve_listL h (by rw [List.length_map]; exact hl)
/-- parts of a pair, of a triple -/
theorem vfst {p : α × β} (ha : VD X Γ a (e2 ea eb p)) (hb : VD X Γ b (.int 0)) (hs : PlainIx b := by exact fun _ _ => rfl) : VD X Γ (.Subscript a b pos) (ea p.1) := ve_ixT ha.t hb rfl hs
theorem vsnd {p : α × β} (ha : VD X Γ a (e2 ea eb p)) (hb : VD X Γ b (.int 1)) (hs : PlainIx b := by exact fun _ _ => rfl) : VD X Γ (.Subscript a b pos) (eb p.2) := ve_ixT ha.t hb rfl hs
theorem v3a {p : α × β × γ} (ha : VD X Γ a (e3 ea eb ec p)) (hb : VD X Γ b (.int 0)) (hs : PlainIx b := by exact fun _ _ => rfl) : VD X Γ (.Subscript a b pos) (ea p.1) := ve_ixT ha.t hb rfl hs
theorem v3b {p : α × β × γ} (ha : VD X Γ a (e3 ea eb ec p)) (hb : VD X Γ b (.int 1)) (hs : PlainIx b := by exact fun _ _ => rfl) : VD X Γ (.Subscript a b pos) (eb p.2.1) := ve_ixT ha.t hb rfl hs
theorem v3c {p : α × β × γ} (ha : VD X Γ a (e3 ea eb ec p)) (hb : VD X Γ b (.int 2)) (hs : PlainIx b := by exact fun _ _ => rfl) : VD X Γ (.Subscript a b pos) (ec p.2.2) := ve_ixT ha.t hb rfl hs
/-- great numbers: below 10 ^ 60 -/
theorem log2_60 {n : Nat} (h : n < 1000000000000000000000000000000000000000000000000000000000000) : n.log2 < 200 := by
  by_cases hz : n = 0
  · subst hz; decide
  · exact (Nat.log2_lt hz).mpr (Nat.lt_of_lt_of_le h (by decide))
theorem ve_fdivB (ha : VD X Γ a (.int i)) (hb : VD X Γ b (.int j)) (hc : 0 < j ∧ j < 1000000000000000000000000000000000000000000000000000000000000) : VD X Γ (.BinOp a .FloorDiv b pos) (.int (i / j)) :=
  ve_fdivW ha hb ⟨hc.1, Nat.lt_of_lt_of_le (log2_60 (by omega)) (by decide)⟩
theorem ve_mulB (ha : VD X Γ a (.int i)) (hb : VD X Γ b (.int j)) (hc : i.natAbs < 1000000000000000000000000000000000000000000000000000000000000 ∧ j.natAbs < 1000000000000000000000000000000000000000000000000000000000000) : VD X Γ (.BinOp a .Mult b pos) (.int (i * j)) :=
  ve_mulW ha hb (by have h1 := log2_60 hc.1; have h2 := log2_60 hc.2; show i.natAbs.log2 + j.natAbs.log2 < 1000000; omega)
theorem ve_mulS (ha : VD X Γ a (.int i)) (hb : VD X Γ b (.int j)) (hc : (-18446744073709551616 < i ∧ i < 18446744073709551616) ∨ (-18446744073709551616 < j ∧ j < 18446744073709551616)) : VD X Γ (.BinOp a .Mult b pos) (.int (i * j)) := ve_mul ha hb (by unfold CMul; omega)
/-! loops, typed -/
variable {iter tg : Expr} {body : List Stmt} {en : α → PyData} {xs : List α}
theorem vs_forR {p : Pos} {lo st : Int} {n : Nat} (k : Nat) (W : Nat → Env' → Prop) (hi : ∀ tg, VI X Γ tg iter (rgD lo st n)) (hN : X.N.Nodup) (h0 : W 0 Γ)
    (hs : ∀ (m : Nat) (y : Int) Γ', m < n → y = lo + (m : Int) * st → W m Γ' → VK' X body { D with nx := W (m + 1), ct := W (m + 1), bk := D.nx } (Γ'.set k (some (.leaf (eI y))))) (hd : ∀ Γ', W n Γ' → D.nx Γ')
    (hix : X.N[k]? = some x := by rfl) (hx : Loc X.env.scope x := by first | exact Or.inl rfl | exact Or.inr rfl) (hfn : X.fn x = true ∨ X.env.scope.names.lookup x = some .local := by first | exact .inl rfl | exact .inr rfl)
    (hc : X.calm = true := by rfl) (hp : PassesOwn (model X.prog X.w) X.A X.env X.xe := by exact PassesOwn.never) (hf : ∀ x, foldedSetIterable iter X.env x = pure x := by intro _; rfl) : VS X (.For (.Name x p) iter body [] pos) D Γ :=
  vs_forI k W hi hN h0 (fun m Γ' hm w => hs m _ Γ' hm rfl w) hd hix hx hfn hc hp hf
theorem vs_forN {p : Pos} (k : Nat) (W : Nat → Env' → Prop) (hi : ∀ tg, VI X Γ tg iter (xs.map en)) (hN : X.N.Nodup) (h0 : W 0 Γ)
    (hs : ∀ (m : Nat) (y : α) Γ', xs[m]? = some y → W m Γ' → VK' X body { D with nx := W (m + 1), ct := W (m + 1), bk := D.nx } (Γ'.set k (some (.leaf (en y))))) (hd : ∀ Γ', W xs.length Γ' → D.nx Γ')
    (hix : X.N[k]? = some x := by rfl) (hx : Loc X.env.scope x := by first | exact Or.inl rfl | exact Or.inr rfl) (hfn : X.fn x = true ∨ X.env.scope.names.lookup x = some .local := by first | exact .inl rfl | exact .inr rfl)
    (hc : X.calm = true := by rfl) (hp : PassesOwn (model X.prog X.w) X.A X.env X.xe := by exact PassesOwn.never) (hf : ∀ x, foldedSetIterable iter X.env x = pure x := by intro _; rfl) : VS X (.For (.Name x p) iter body [] pos) D Γ :=
  vs_forE W (hi _) (vg_name k hN hix hx hfn) h0 (fun m y Γ' hm w => ⟨_, rfl, hs m y Γ' hm w⟩) hd hc hp hf
/-- names of a target -/
theorem na_nil : NamesAt X [] [] := .nil
theorem na_cons {x : Str} {p : Pos} {es : List Expr} {ks : List Nat} (k : Nat) (n : NamesAt X es ks) (hi : X.N[k]? = some x := by rfl) (hx : Loc X.env.scope x := by first | exact Or.inl rfl | exact Or.inr rfl) (hf : X.fn x = true ∨ X.env.scope.names.lookup x = some .local := by first | exact .inl rfl | exact .inr rfl)
    (ha : ((assignEach (.Name x p :: es) X.env).map (·.2) = assign (.Name x p) X.env :: (assignEach es X.env).map (·.2)) := by rfl) : NamesAt X (.Name x p :: es) (k :: ks) := .cons hi hx hf ha n
theorem vs_for2 {es : List Expr} {kt : Nat} {p : Pos} (k l : Nat) {xs : List (α × β)} (W : Nat → Env' → Prop) (hi : ∀ tg, VI X Γ tg iter (xs.map (e2 ea eb))) (hN : X.N.Nodup) (n : NamesAt X es [k, l]) (h0 : W 0 Γ)
    (hs : ∀ (m : Nat) (y : α) (z : β) Γ', xs[m]? = some (y, z) → W m Γ' → VK' X body { D with nx := W (m + 1), ct := W (m + 1), bk := D.nx } ((Γ'.set k (some (.leaf (ea y)))).set l (some (.leaf (eb z))))) (hd : ∀ Γ', W xs.length Γ' → D.nx Γ')
    (hn : (assignEach es X.env).length = 2 := by rfl) (hst : (assignEach es X.env).findIdx? (·.1) = none := by rfl)
    (hc : X.calm = true := by rfl) (hp : PassesOwn (model X.prog X.w) X.A X.env X.xe := by exact PassesOwn.never) (hf : ∀ x, foldedSetIterable iter X.env x = pure x := by intro _; rfl) : VS X (.For (.Tuple es kt p) iter body [] pos) D Γ :=
  vs_forE W (hi _) (vg_tup hc hN n hn hst) h0 (fun m y Γ' hm w => ⟨_, rfl, hs m y.1 y.2 Γ' hm w⟩) hd hc hp hf
theorem vs_for3 {es : List Expr} {kt : Nat} {p : Pos} (k l q : Nat) {xs : List (α × β × γ)} (W : Nat → Env' → Prop) (hi : ∀ tg, VI X Γ tg iter (xs.map (e3 ea eb ec))) (hN : X.N.Nodup) (n : NamesAt X es [k, l, q]) (h0 : W 0 Γ)
    (hs : ∀ (m : Nat) (y : α) (z : β) (t : γ) Γ', xs[m]? = some (y, z, t) → W m Γ' → VK' X body { D with nx := W (m + 1), ct := W (m + 1), bk := D.nx } (((Γ'.set k (some (.leaf (ea y)))).set l (some (.leaf (eb z)))).set q (some (.leaf (ec t))))) (hd : ∀ Γ', W xs.length Γ' → D.nx Γ')
    (hn : (assignEach es X.env).length = 3 := by rfl) (hst : (assignEach es X.env).findIdx? (·.1) = none := by rfl)
    (hc : X.calm = true := by rfl) (hp : PassesOwn (model X.prog X.w) X.A X.env X.xe := by exact PassesOwn.never) (hf : ∀ x, foldedSetIterable iter X.env x = pure x := by intro _; rfl) : VS X (.For (.Tuple es kt p) iter body [] pos) D Γ :=
  vs_forE W (hi _) (vg_tup hc hN n hn hst) h0 (fun m y Γ' hm w => ⟨_, rfl, hs m y.1 y.2.1 y.2.2 Γ' hm w⟩) hd hc hp hf
/-- a, b = e, typed -/
theorem vs_asg2 {es : List Expr} {kt : Nat} {p : Pos} (k l : Nat) {q : α × β} (he : VM X Γ e (.leaf (e2 ea eb q)) Γ1) (hN : X.N.Nodup) (n : NamesAt X es [k, l]) (h : ∀ y z, (y, z) = q → D.nx ((Γ1.set k (some (.leaf (ea y)))).set l (some (.leaf (eb z)))))
    (hc : X.calm = true := by rfl) (hn : (assignEach es X.env).length = 2 := by rfl) (hst : (assignEach es X.env).findIdx? (·.1) = none := by rfl)
    (hs : swapsWithSole [.Tuple es kt p] e pos.line X.env = pure false := by rfl) (hw : swappedStores [.Tuple es kt p] e X.env = pure none := by rfl) (h1 : (assignEach [.Tuple es kt p] X.env).map (·.2) = [assign (.Tuple es kt p) X.env] := by rfl) : VS X (.Assign [.Tuple es kt p] e pos) D Γ :=
  vs_asgT he (vg_tup hc hN n hn hst) (parts := [ea q.1, eb q.2]) rfl (h q.1 q.2 rfl) hs hw h1
theorem vs_asg3 {es : List Expr} {kt : Nat} {p : Pos} (k l t : Nat) {q : α × β × γ} (he : VM X Γ e (.leaf (e3 ea eb ec q)) Γ1) (hN : X.N.Nodup) (n : NamesAt X es [k, l, t]) (h : ∀ y z w, (y, z, w) = q → D.nx (((Γ1.set k (some (.leaf (ea y)))).set l (some (.leaf (eb z)))).set t (some (.leaf (ec w)))))
    (hc : X.calm = true := by rfl) (hn : (assignEach es X.env).length = 3 := by rfl) (hst : (assignEach es X.env).findIdx? (·.1) = none := by rfl)
    (hs : swapsWithSole [.Tuple es kt p] e pos.line X.env = pure false := by rfl) (hw : swappedStores [.Tuple es kt p] e X.env = pure none := by rfl) (h1 : (assignEach [.Tuple es kt p] X.env).map (·.2) = [assign (.Tuple es kt p) X.env] := by rfl) : VS X (.Assign [.Tuple es kt p] e pos) D Γ :=
  vs_asgT he (vg_tup hc hN n hn hst) (parts := [ea q.1, eb q.2.1, ec q.2.2]) rfl (h q.1 q.2.1 q.2.2 rfl) hs hw h1
/-! comprehensions, typed -/
variable {elt : Expr} {ifs : List Expr} {scope : Scope} {js : List Nat} {split : PyData → Option (List PyData)}
theorem vlcE (own : List (Str × Nat)) (ea : α → PyData) (eb : β → PyData) {p : α → Bool} {g : α → β} (hi : VIc X Γ tg iter (xs.map ea)) (no : NoOwn Γ (own.map (·.2)))
    (hg : InBlk X scope fun XB => VG XB tg js split) (hnd : js.Nodup) (hsub : ∀ j ∈ js, j ∈ own.map (·.2)) (hz : xs.length < 1000000) (hN : X.N.Nodup) (ok : BlkOk X.N X.env.scope scope own)
    (hs : ∀ a ∈ xs, ∃ parts, split (ea a) = some parts ∧ (InBlk X scope fun XB => VTs XB (putsG (wipeG Γ (own.map (·.2))) js parts) ifs (p a) ∧ (p a = true → VD XB (putsG (wipeG Γ (own.map (·.2))) js parts) elt (eb (g a)))))
    (hc : X.calm = true := by rfl) (hf : ∀ x, foldedSetIterable iter X.env x = pure x := by intro _; rfl) :
    VE X Γ (.ListComp elt [⟨tg, iter, ifs, 0⟩] scope pos) (.lst (lfs (((xs.filter p).map g).map eb))) := by
  rw [List.map_map]
  exact ve_lc own ea p (eb ∘ g) rfl hi no hg hnd hsub hs hz hN ok hc hf
theorem vs_setLcE {y : Str} {py spos : Pos} (k : Nat) (own : List (Str × Nat)) (ea : α → PyData) (eb : β → PyData) {p : α → Bool} {g : α → β} (hi : VIc X Γ tg iter (xs.map ea)) (no : NoOwn Γ (own.map (·.2)))
    (hg : InBlk X scope fun XB => VG XB tg js split) (hnd : js.Nodup) (hsub : ∀ j ∈ js, j ∈ own.map (·.2)) (hz : xs.length < 1000000) (hN : X.N.Nodup) (ok : BlkOk X.N X.env.scope scope own)
    (hs : ∀ a ∈ xs, ∃ parts, split (ea a) = some parts ∧ (InBlk X scope fun XB => VTs XB (putsG (wipeG Γ (own.map (·.2))) js parts) ifs (p a) ∧ (p a = true → VD XB (putsG (wipeG Γ (own.map (·.2))) js parts) elt (eb (g a)))))
    (hD : ∀ z, z = (xs.filter p).map g → D.nx (Γ.set k (some (.lst (lfs (z.map eb)))))) (hy : X.N[k]? = some y := by rfl) (hyl : X.env.scope.names.lookup y = some .local := by rfl)
    (hsw : swapsWith (.ListComp elt [⟨tg, iter, ifs, 0⟩] scope pos) (some (.Name y py)) spos.line X.env = pure true := by exact sw_true rfl rfl rfl (by decide +kernel)) (hc : X.calm = true := by rfl) (hf : ∀ x, foldedSetIterable iter X.env x = pure x := by intro _; rfl) :
    VS X (.Assign [.Name y py] (.ListComp elt [⟨tg, iter, ifs, 0⟩] scope pos) spos) D Γ :=
  vs_setLc k own ea p (eb ∘ g) rfl hi no hg hnd hsub hs hz (by have := hD _ rfl; rwa [List.map_map] at this) hN ok hy hyl hsw hc hf
/-- ranges, typed -/
theorem rgD_map (lo st : Int) (n : Nat) : rgD lo st n = ((List.range n).map fun k => lo + ((k : Nat) : Int) * st).map eI := by
  unfold rgD
  rw [List.map_map]
  rfl
theorem vi_rg {lo st : Int} {n : Nat} (h : VI X Γ tg iter (rgD lo st n)) : VI X Γ tg iter (((List.range n).map fun k => lo + ((k : Nat) : Int) * st).map eI) := by
  rw [← rgD_map]; exact h
end
/-- the script's ints, as an argument of the draws -/
def SpDr (K : Fg) (n : Nat) (f : List Int → Int → List Int) (P : Int → Prop) : Sp := fun vs H Q _ => ∃ (a : Addr) (ns : List Int) (m : Int) (G : Hp), vs = [.ref a, .int m] ∧ SqL K G a (ns.map V.int) ∧ Same G H ∧ ns.length ≤ n ∧ P m ∧ ∀ v G' H' B, Base G H G' H' → RepO K G' H' (.lst (lfs ((f ns m).map eI))) v B → (∀ a ∈ B, H a = none) → Q v H'
end V3
namespace V3
open PySem PySem.Spec PyProof.Rows L2
section
variable {X : Cx} {Γ Γ' Γ1 : Env'} {e a b c : Expr} {pos : Pos} {i j : Int} {d : PyData} {ds : List PyData} {o : OT} {os : List OT} {α β γ : Type} {D : Dn} {x : Str} {p1 p2 apos cpos : Pos} {en : α → PyData} {xs : List α}
theorem lfs_snoc {en : α → PyData} (xs : List α) (v : α) : lfs ((xs ++ [v]).map en) = lfs (xs.map en) ++ [OT.leaf (en v)] := by simp [lfs]
theorem lfs_app {en : α → PyData} (xs ys : List α) : lfs ((xs ++ ys).map en) = lfs (xs.map en) ++ lfs (ys.map en) := by simp [lfs]
theorem lfs_set {en : α → PyData} (xs : List α) (n : Nat) (v : α) : lfs ((xs.set n v).map en) = (lfs (xs.map en)).set n (OT.leaf (en v)) := by simp [lfs, List.map_set]
theorem snoc_of {xs : List α} (h : xs ≠ []) : ∃ ys y, xs = ys ++ [y] := ⟨xs.dropLast, xs.getLast h, (List.dropLast_concat_getLast h).symm⟩
/-- y = xs.pop(), typed -/
theorem vs_popN {y : Str} {py : Pos} (l k : Nat) (en : α → PyData) (hs : Γ[k]? = some (some (.lst (lfs (xs.map en))))) (hne : xs ≠ []) (hnd : X.N.Nodup) (h : ∀ zs z, xs = zs ++ [z] → D.nx ((Γ.set k (some (.lst (lfs (zs.map en))))).set l (some (.leaf (en z))))) (hi : X.N[l]? = some y := by rfl) (hx : Loc X.env.scope y := by first | exact Or.inl rfl | exact Or.inr rfl) (hN : X.N[k]? = some x := by rfl)
    (hv : Vis X.env.scope x := by first | exact Or.inl rfl | exact Or.inr (Or.inl rfl) | exact Or.inr (Or.inr rfl)) (hd : (x == ("__debug__" : Str)) = false := by decide) (hcd : (x == ("__classdict__" : Str)) = false := by decide)
    (hbase : attributeBase (.Name x p1) "pop" X.env (eval (.Name x p1) X.env) = eval (.Name x p1) X.env := by rfl) (hline : (apos.endLine == cpos.line) = true := by rfl)
    (hsw : swapsWith (.Call (.Attribute (.Name x p1) "pop" apos) [] [] cpos) (some (.Name y py)) pos.line X.env = pure false := by rfl) (hf : X.fn y = true ∨ X.env.scope.names.lookup y = some .local := by first | exact .inl rfl | exact .inr rfl) :
    VS X (.Assign [.Name y py] (.Call (.Attribute (.Name x p1) "pop" apos) [] [] cpos) pos) D Γ := by
  obtain ⟨zs, z, rfl⟩ := snoc_of hne
  exact vs_setPop l k (by rw [hs, lfs_snoc]) (h zs z rfl) hnd hi hx hN hv hd hcd hbase hline hsw hf
/-- a, b = xs.pop(); a, b, c = xs.pop() -/
theorem vs_pop2 {ea : α → PyData} {eb : β → PyData} {xs : List (α × β)} {es : List Expr} {kt : Nat} {p : Pos} (l m k : Nat) (hs : Γ[k]? = some (some (.lst (lfs (xs.map (e2 ea eb)))))) (hne : xs ≠ []) (hnd : X.N.Nodup) (n : NamesAt X es [l, m]) (h : ∀ zs y z, xs = zs ++ [(y, z)] → D.nx (((Γ.set k (some (.lst (lfs (zs.map (e2 ea eb)))))).set l (some (.leaf (ea y)))).set m (some (.leaf (eb z)))))
    (hN : X.N[k]? = some x := by rfl) (hv : Vis X.env.scope x := by first | exact Or.inl rfl | exact Or.inr (Or.inl rfl) | exact Or.inr (Or.inr rfl)) (hd : (x == ("__debug__" : Str)) = false := by decide) (hcd : (x == ("__classdict__" : Str)) = false := by decide)
    (hc : X.calm = true := by rfl) (hn : (assignEach es X.env).length = 2 := by rfl) (hst : (assignEach es X.env).findIdx? (·.1) = none := by rfl)
    (hbase : attributeBase (.Name x p1) "pop" X.env (eval (.Name x p1) X.env) = eval (.Name x p1) X.env := by rfl) (hline : (apos.endLine == cpos.line) = true := by rfl)
    (hs1 : swapsWithSole [.Tuple es kt p] (.Call (.Attribute (.Name x p1) "pop" apos) [] [] cpos) pos.line X.env = pure false := by rfl) (hw : swappedStores [.Tuple es kt p] (.Call (.Attribute (.Name x p1) "pop" apos) [] [] cpos) X.env = pure none := by rfl) (h1 : (assignEach [.Tuple es kt p] X.env).map (·.2) = [assign (.Tuple es kt p) X.env] := by rfl) :
    VS X (.Assign [.Tuple es kt p] (.Call (.Attribute (.Name x p1) "pop" apos) [] [] cpos) pos) D Γ := by
  obtain ⟨zs, ⟨y, z⟩, rfl⟩ := snoc_of hne
  exact vs_asgPop k (by rw [hs, lfs_snoc]) (vg_tup hc hnd n hn hst) (parts := [ea y, eb z]) rfl (h zs y z rfl) hN hv hd hcd hbase hline hs1 hw h1
theorem vs_pop3 {ea : α → PyData} {eb : β → PyData} {ec : γ → PyData} {xs : List (α × β × γ)} {es : List Expr} {kt : Nat} {p : Pos} (l m q k : Nat) (hs : Γ[k]? = some (some (.lst (lfs (xs.map (e3 ea eb ec)))))) (hne : xs ≠ []) (hnd : X.N.Nodup) (n : NamesAt X es [l, m, q]) (h : ∀ zs y z w, xs = zs ++ [(y, z, w)] → D.nx ((((Γ.set k (some (.lst (lfs (zs.map (e3 ea eb ec)))))).set l (some (.leaf (ea y)))).set m (some (.leaf (eb z)))).set q (some (.leaf (ec w)))))
    (hN : X.N[k]? = some x := by rfl) (hv : Vis X.env.scope x := by first | exact Or.inl rfl | exact Or.inr (Or.inl rfl) | exact Or.inr (Or.inr rfl)) (hd : (x == ("__debug__" : Str)) = false := by decide) (hcd : (x == ("__classdict__" : Str)) = false := by decide)
    (hc : X.calm = true := by rfl) (hn : (assignEach es X.env).length = 3 := by rfl) (hst : (assignEach es X.env).findIdx? (·.1) = none := by rfl)
    (hbase : attributeBase (.Name x p1) "pop" X.env (eval (.Name x p1) X.env) = eval (.Name x p1) X.env := by rfl) (hline : (apos.endLine == cpos.line) = true := by rfl)
    (hs1 : swapsWithSole [.Tuple es kt p] (.Call (.Attribute (.Name x p1) "pop" apos) [] [] cpos) pos.line X.env = pure false := by rfl) (hw : swappedStores [.Tuple es kt p] (.Call (.Attribute (.Name x p1) "pop" apos) [] [] cpos) X.env = pure none := by rfl) (h1 : (assignEach [.Tuple es kt p] X.env).map (·.2) = [assign (.Tuple es kt p) X.env] := by rfl) :
    VS X (.Assign [.Tuple es kt p] (.Call (.Attribute (.Name x p1) "pop" apos) [] [] cpos) pos) D Γ := by
  obtain ⟨zs, ⟨y, z, w⟩, rfl⟩ := snoc_of hne
  exact vs_asgPop k (by rw [hs, lfs_snoc]) (vg_tup hc hnd n hn hst) (parts := [ea y, eb z, ec w]) rfl (h zs y z w rfl) hN hv hd hcd hbase hline hs1 hw h1
theorem vs_popX (k : Nat) (en : α → PyData) (hs : Γ[k]? = some (some (.lst (lfs (xs.map en))))) (hne : xs ≠ []) (h : ∀ zs z, xs = zs ++ [z] → D.nx (Γ.set k (some (.lst (lfs (zs.map en)))))) (hN : X.N[k]? = some x := by rfl)
    (hv : Vis X.env.scope x := by first | exact Or.inl rfl | exact Or.inr (Or.inl rfl) | exact Or.inr (Or.inr rfl)) (hd : (x == ("__debug__" : Str)) = false := by decide) (hcd : (x == ("__classdict__" : Str)) = false := by decide)
    (hbase : attributeBase (.Name x p1) "pop" X.env (eval (.Name x p1) X.env) = eval (.Name x p1) X.env := by rfl) (hline : (apos.endLine == cpos.line) = true := by rfl)
    (hsw : swapsWith (.Call (.Attribute (.Name x p1) "pop" apos) [] [] cpos) none pos.line X.env = pure false := by rfl) :
    VS X (.Expr (.Call (.Attribute (.Name x p1) "pop" apos) [] [] cpos) pos) D Γ := by
  obtain ⟨zs, z, rfl⟩ := snoc_of hne
  exact vs_popE k (by rw [hs, lfs_snoc]) (h zs z rfl) hN hv hd hcd hbase hline hsw
theorem vs_extE {ys : List α} (k : Nat) (en : α → PyData) (he : VL X Γ e (ys.map en)) (hs : Γ[k]? = some (some (.lst (lfs (xs.map en))))) (hz : xs.length + ys.length ≤ 1000000) (h : D.nx (Γ.set k (some (.lst (lfs ((xs ++ ys).map en)))))) (hN : X.N[k]? = some x := by rfl)
    (hv : Vis X.env.scope x := by first | exact Or.inl rfl | exact Or.inr (Or.inl rfl) | exact Or.inr (Or.inr rfl)) (hd : (x == ("__debug__" : Str)) = false := by decide) (hcd : (x == ("__classdict__" : Str)) = false := by decide)
    (hbase : attributeBase (.Name x p1) "extend" X.env (eval (.Name x p1) X.env) = eval (.Name x p1) X.env := by rfl)
    (hfew : ((backTo cpos (starEach [e] X.env)).all (fun x => !x.1) && (backToKw cpos (keywordEach [] X.env)).all (fun x => x.1.isSome) && decide ([e].length + ([] : List Keyword).length + (if ([] : List Keyword).isEmpty then 0 else 1) < 30)) = true := by rfl)
    (hline : (apos.endLine == cpos.line) = true := by rfl) (hst : starEach [e] X.env = [(false, eval e X.env)] := by rfl) (hsw : swapsWith (.Call (.Attribute (.Name x p1) "extend" apos) [e] [] cpos) none pos.line X.env = pure false := by rfl) :
    VS X (.Expr (.Call (.Attribute (.Name x p1) "extend" apos) [e] [] cpos) pos) D Γ :=
  vs_extend k he hs (by rw [lfs_len, List.length_map, List.length_map]; exact hz) (by rw [← lfs_app]; exact h) hN hv hd hcd hbase hfew hline hst hsw
/-- xs[i] = e, typed -/
theorem vs_setIE (k : Nat) {ix : Expr} {ipos tpos : Pos} (en : α → PyData) {v : α} (he : VM X Γ e (.leaf (en v)) Γ1) (hs : Γ1[k]? = some (some (.lst (lfs (xs.map en))))) (hix : VD X Γ1 ix (.int i)) (hn : 0 ≤ i ∧ i.toNat < xs.length) (h : D.nx (Γ1.set k (some (.lst (lfs ((xs.set i.toNat v).map en)))))) (hN : X.N[k]? = some x := by rfl)
    (hv : Vis X.env.scope x := by first | exact Or.inl rfl | exact Or.inr (Or.inl rfl) | exact Or.inr (Or.inr rfl)) (hd : (x == ("__debug__" : Str)) = false := by decide) (hcd : (x == ("__classdict__" : Str)) = false := by decide)
    (ha : ∀ v, assign (.Subscript (.Name x p1) ix tpos) X.env v = (do
      let ov ← holding [v] (eval (.Name x p1) X.env)
      let iv ← holding [v, ov] (eval ix X.env)
      standAt tpos
      holding [v, ov, iv] (setItem ov iv v)
      release [v, ov, iv] []) := by intro _; rfl)
    (hs1 : swapsWithSole [.Subscript (.Name x p1) ix tpos] e pos.line X.env = pure false := by rfl) (hw : swappedStores [.Subscript (.Name x p1) ix tpos] e X.env = pure none := by rfl) (h1 : (assignEach [.Subscript (.Name x p1) ix tpos] X.env).map (·.2) = [assign (.Subscript (.Name x p1) ix tpos) X.env] := by rfl) :
    VS X (.Assign [.Subscript (.Name x p1) ix tpos] e pos) D Γ :=
  vs_setI (ipos := ipos) k (n := i.toNat) he hs (by
    have e1 : ((i.toNat : Nat) : Int) = i := by omega
    rw [e1]
    exact hix) (by rw [lfs_len, List.length_map]; exact hn.2) (by rw [← lfs_set]; exact h) hN hv hd hcd ha hs1 hw h1
/-- the slots of a comprehension's names own nothing -/
theorem no_nil : NoOwn Γ [] := fun _ h => nomatch h
theorem no_cons {i : Nat} {is : List Nat} (h : ∀ o, Γ[i]? = some (some o) → ∃ d, o = .leaf d) (r : NoOwn Γ is) : NoOwn Γ (i :: is) := fun k hk => by
  rcases List.mem_cons.mp hk with rfl | hk
  · exact h
  · exact r k hk
theorem no_none {i : Nat} (h : Γ[i]? = some none) : ∀ o, Γ[i]? = some (some o) → ∃ d, o = .leaf d := fun o e => by rw [h] at e; cases e
theorem no_leaf {i : Nat} (h : Γ[i]? = some (some (.leaf d))) : ∀ o, Γ[i]? = some (some o) → ∃ d, o = .leaf d := fun o e => by rw [h] at e; cases e; exact ⟨_, rfl⟩
theorem no_opt {i : Nat} {q : Option PyData} (h : Γ[i]? = some (q.map OT.leaf)) : ∀ o, Γ[i]? = some (some o) → ∃ d, o = .leaf d := fun o e => by
  rw [h] at e
  cases q with
  | none => cases e
  | some d => cases e; exact ⟨_, rfl⟩
/-- in, not in, with a def's room -/
theorem vinR [DecidableEq α] {n k : Nat} {x : α} (hr : Room k X.A) (g : GE en n) (ha : VV X Γ a (en x)) (hb : VV X Γ b (eL en xs)) (hm : behindInMarks .In b = false := by rfl) (hn : n + 1 ≤ 64 := by decide) : VC X Γ .In a b (decide (x ∈ xs)) :=
  vinE (roomy hr) (op_inD (by have := hr.un; omega)) g ha hb hm hn
theorem vninR [DecidableEq α] {n k : Nat} {x : α} (hr : Room k X.A) (g : GE en n) (ha : VV X Γ a (en x)) (hb : VV X Γ b (eL en xs)) (hm : behindInMarks .NotIn b = false := by rfl) (hn : n + 1 ≤ 64 := by decide) : VC X Γ .NotIn a b (!decide (x ∈ xs)) :=
  vninE (roomy hr) (op_notInD (by have := hr.un; omega)) g ha hb hm hn
end
end V3

/-! V3h: pairs of stores, lent arguments, order of pairs, the script. -/
namespace V3
open PySem PySem.Spec PyProof.Rows L2
section
variable {X : Cx} {Γ Γ' Γ1 : Env'} {e a b c : Expr} {pos : Pos} {i j : Int} {d : PyData} {ds : List PyData} {o : OT} {os : List OT} {α β γ : Type} {D : Dn}
/-- x, y = a, b, both named -/
theorem vs_par2 {x y : Str} {px py pt : Pos} {kt k2 pt2} (k l : Nat) (ea : α → PyData) (eb : β → PyData) {u : α} {v : β} (hN : X.N.Nodup) (ha : VD X Γ a (ea u)) (hb : VD X Γ b (eb v)) (h : ∀ z, z = u → ∀ t, t = v → D.nx ((Γ.set k (some (.leaf (ea z)))).set l (some (.leaf (eb t)))))
    (hc : X.calm = true := by rfl) (hi : X.N[k]? = some x := by rfl) (hj : X.N[l]? = some y := by rfl) (hij : k ≠ l := by decide) (hx : X.env.scope.names.lookup x = some .local := by rfl) (hy : X.env.scope.names.lookup y = some .local := by rfl)
    (hw : swappedStores [.Tuple [.Name x px, .Name y py] kt pt] (.Tuple [a, b] k2 pt2) X.env = pure (some [x, y]) := by rfl)
    (hs : swapsWithSole [.Tuple [.Name x px, .Name y py] kt pt] (.Tuple [a, b] k2 pt2) pos.line X.env = pure false := by rfl)
    (he : starEach [a, b] X.env = (false, eval a X.env) :: starEach [b] X.env := by rfl) (he2 : starEach [b] X.env = [(false, eval b X.env)] := by rfl) :
    VS X (.Assign [.Tuple [.Name x px, .Name y py] kt pt] (.Tuple [a, b] k2 pt2) pos) D Γ := vs_par k l hc hN ha hb (h u rfl v rfl) hi hj hij hx hy hw hs he he2
/-! ### arguments that are lent: the answer is flat -/
def VAV (X : Cx) (Γ : Env') (es : List Expr) (ds : List PyData) : Prop := ∀ (G0 H0 G H : Hp) (σ : Sl), InvS X.K G0 H0 G H σ Γ → ∀ Q : List V → Hp → Prop,
  (∀ vs G' H', Same G G' → Same H H' → InvS X.K G0 H0 G' H' σ Γ → Rps X.K H' vs ds → Q vs H') → RunA X es σ H Q
theorem vav_nil : VAV X Γ [] [] := fun G0 H0 G H σ I Q q => ⟨_, pa_nil, q [] G H (Same.refl _) (Same.refl _) I .nil⟩
theorem vav_cons {es : List Expr} (h : VV X Γ a d) (h' : VAV X Γ es ds) (hs : starEach (a :: es) X.env = (false, eval a X.env) :: starEach es X.env := by rfl) : VAV X Γ (a :: es) (d :: ds) := fun G0 H0 G H σ I Q q =>
  ⟨_, pa_cons (runE X a) (runA X es) hs, h G0 H0 G H σ I _ fun v G1 H1 g1 h1 I1 r1 => h' G0 H0 G1 H1 σ I1 _ fun vs G2 H2 g2 h2 I2 r2 =>
    q (v :: vs) G2 H2 (g1.trans g2) (h1.trans h2) I2 (.cons (dp_mono h2 r1) r2)⟩
theorem ve_callV {x : Str} {p : Pos} {es : List Expr} {k n : Nat} {pre : List PyData → OT → Prop} (C : Cal X.prog X.w X.K X.mg X.base k x n (SpD X.K pre)) (hr : Room k X.A) (ha : VAV X Γ (a :: es) ds) (hp : pre ds (.leaf d)) (fl : flatD d = true := by rfl) (hg : Gl X x := by rfl)
    (hdb : (x == ("__debug__" : Str)) = false := by decide) (he : starEach (a :: es) X.env = (false, eval a X.env) :: starEach es X.env := by rfl) (hpl : (backTo pos (starEach es X.env)).any (·.1) = false := by rfl) : VD X Γ (.Call (.Name x p) (a :: es) [] pos) d := fun G0 H0 G H σ I Q q => by
  obtain ⟨f, fd, ps, F, hm, hk, hb, _⟩ := C.ex
  refine ⟨_, pe_call F hr hg hm hk hb .nil pass0 (runA X (a :: es)) hdb he hpl, ha G0 H0 G H σ I _ fun vs G1 H1 g1 h1 I1 a1 => ?_⟩
  rw [List.append_nil]
  refine ⟨H1, ds, .leaf d, Same.refl _, a1, hp, fun v G2 H2 B b2 r2 f2 => ?_⟩
  have rr : Rp X.K G1 v d := by
    cases r2 with
    | leaf r => exact dp_flat r fl
  have J : InvS X.K G0 H0 G1 H2 σ Γ := I1.grow ⟨Same.refl _, b2.h, I1.i.trans b2.h, fun _ _ => rfl⟩
  exact q v G1 H2 g1 (h1.trans b2.h) (J.leafR rr)
/-! ### order of pairs -/
def rGeT (K : PySem.W.Frag) : R2 := fun x y H Q => ∃ (a b : Addr) (ns ms : List Int), x = .ref a ∧ y = .ref b ∧ SqT K H a (ns.map V.int) ∧ SqT K H b (ms.map V.int) ∧
  Q (.bl (Ob.lexAt (fun j => decide (ns.getD j 0 = ms.getD j 0)) (fun j => decide (ms.getD j 0 ≤ ns.getD j 0)) (decide (ns.length ≥ ms.length)) 0 (min ns.length ms.length))) H
theorem op_geT {X : Cx} (hu : X.A.units < cLine) : OpR X (compareOp .GtE) (rGeT X.K) := by
  intro pins s σ H x y v u Q I rx ry h
  obtain ⟨a, b, ns, ms, rfl, rfl, ha, hb, q⟩ := h
  cases rx
  cases ry
  obtain ⟨its, r1, p1, _⟩ := I.tuple ha
  obtain ⟨its2, r2, p2, _⟩ := I.tuple hb
  have i1 : IntsAre its ns := Vals.ints r1
  have i2 : IntsAre its2 ms := Vals.ints r2
  have e1 : its.toArray.size = ns.length := by rw [List.size_toArray]; exact i1.length
  have e2 : its2.toArray.size = ms.length := by rw [List.size_toArray]; exact i2.length
  have at1 : ∀ j (h1 : j < its.toArray.size), ∃ t, its.toArray[j] = .int (ns.getD j 0) t := fun j h1 => PyProof.Rows.IntsAre.int_at i1 _ _ (by simp at h1; simp [h1])
  have at2 : ∀ j (h1 : j < its2.toArray.size), ∃ t, its2.toArray[j] = .int (ms.getD j 0) t := fun j h1 => PyProof.Rows.IntsAre.int_at i2 _ _ (by simp at h1; simp [h1])
  have R := Ob.RcOp.tuples_ge (A := X.A) (s := s) (e := fun j => decide (ns.getD j 0 = ms.getD j 0)) (r := fun j => decide (ms.getD j 0 ≤ ns.getD j 0)) p1 p2 hu (fun j h1 h2 => by
    obtain ⟨t, et⟩ := at1 j h1
    obtain ⟨t', et'⟩ := at2 j h2
    rw [et, et']
    have z : (ns.getD j 0 == ms.getD j 0) = decide (ns.getD j 0 = ms.getD j 0) := by
      by_cases q : ns.getD j 0 = ms.getD j 0
      · rw [decide_eq_true q]; exact beq_iff_eq.mpr q
      · rw [decide_eq_false q]; exact beq_eq_false_iff_ne.mpr q
    rw [← z]
    exact SeqAt.EqAt.int_int _ _ _ _) (fun j h1 h2 _ => by
    obtain ⟨t, et⟩ := at1 j h1
    obtain ⟨t', et'⟩ := at2 j h2
    rw [et, et']
    exact Ob.RcOp.ge_int _ _ _ _)
  rw [e1, e2] at R
  have z : wpAny (model X.prog X.w) X.A (compareOp .GtE (.ref a) (.ref b)) (EP X pins σ Q) X.xe s := R X.prog X.w X.xe (EP X pins σ Q) ⟨.bl _, H, I, rfl, q⟩
  exact z
theorem rp_pair {K : Fg} {H : Hp} {v : V} {p : Int × Int} (h : Rp K H v (e2 eI eI p)) : ∃ a, v = .ref a ∧ SqT K H a ([p.1, p.2].map V.int) := by
  cases h with
  | tup ha hs =>
    cases hs with
    | cons h1 h2 =>
      cases h1
      cases h2 with
      | cons h3 h4 =>
        cases h3
        cases h4
        exact ⟨_, rfl, .inl (.inl ha)⟩
theorem vc_leP {p q : Int × Int} (hu : Roomy X) (ha : VV X Γ a (e2 eI eI p)) (hb : VV X Γ b (e2 eI eI q)) : VC X Γ .LtE a b (leP p q) :=
  ⟨nomark _, _, op_leT (by unfold Roomy at hu; omega), fun G0 H0 G H σ I Q qq => ha G0 H0 G H σ I _ fun v G1 H1 g1 h1 I1 r1 => hb G0 H0 G1 H1 σ I1 _ fun w G2 H2 g2 h2 I2 r2 => by
    obtain ⟨x, rfl, hx⟩ := rp_pair (dp_mono h2 r1)
    obtain ⟨y, rfl, hy⟩ := rp_pair r2
    refine ⟨x, y, _, _, rfl, rfl, hx, hy, ?_⟩
    have e : ∀ e r : Nat → Bool, Ob.lexAt e r true 0 2 = if e 0 = true then (if e 1 = true then true else r 1) else r 0 := fun e r => rfl
    have z : (Ob.lexAt (fun j => decide ([p.1, p.2].getD j 0 = [q.1, q.2].getD j 0)) (fun j => decide ([p.1, p.2].getD j 0 ≤ [q.1, q.2].getD j 0)) (decide ([p.1, p.2].length ≤ [q.1, q.2].length)) 0 (min [p.1, p.2].length [q.1, q.2].length)) = leP p q := by
      refine (e _ _).trans ?_
      simp only [List.getD_cons_zero, List.getD_cons_succ, decide_eq_true_eq, leP]
      by_cases h1 : p.1 = q.1 <;> by_cases h2 : p.2 = q.2 <;> simp [h1, h2] <;> omega
    rw [z]
    exact qq G2 H2 (g1.trans g2) (h1.trans h2) I2⟩
theorem vc_geP {p q : Int × Int} (hu : Roomy X) (ha : VV X Γ a (e2 eI eI p)) (hb : VV X Γ b (e2 eI eI q)) : VC X Γ .GtE a b (leP q p) :=
  ⟨nomark _, _, op_geT (by unfold Roomy at hu; omega), fun G0 H0 G H σ I Q qq => ha G0 H0 G H σ I _ fun v G1 H1 g1 h1 I1 r1 => hb G0 H0 G1 H1 σ I1 _ fun w G2 H2 g2 h2 I2 r2 => by
    obtain ⟨x, rfl, hx⟩ := rp_pair (dp_mono h2 r1)
    obtain ⟨y, rfl, hy⟩ := rp_pair r2
    refine ⟨x, y, _, _, rfl, rfl, hx, hy, ?_⟩
    have e : ∀ e r : Nat → Bool, Ob.lexAt e r true 0 2 = if e 0 = true then (if e 1 = true then true else r 1) else r 0 := fun e r => rfl
    have z : (Ob.lexAt (fun j => decide ([p.1, p.2].getD j 0 = [q.1, q.2].getD j 0)) (fun j => decide ([q.1, q.2].getD j 0 ≤ [p.1, p.2].getD j 0)) (decide ([p.1, p.2].length ≥ [q.1, q.2].length)) 0 (min [p.1, p.2].length [q.1, q.2].length)) = leP q p := by
      refine (e _ _).trans ?_
      simp only [List.getD_cons_zero, List.getD_cons_succ, decide_eq_true_eq, leP]
      by_cases h1 : p.1 = q.1 <;> by_cases h2 : p.2 = q.2 <;> simp [h1, h2, eq_comm] <;> omega
    rw [z]
    exact qq G2 H2 (g1.trans g2) (h1.trans h2) I2⟩
/-! ### the script -/
theorem rps_ints {K : Fg} {H : Hp} : ∀ ns : List Int, Rps K H (ns.map V.int) (ns.map eI)
  | [] => .nil
  | n :: ns => .cons (.int n) (rps_ints ns)
theorem vslS {x : Str} (k : Nat) {ns zs : List Int} {p p2 : Pos} {lo hi : Option Expr} {lo0 u : Option Int} (hl : VP X Γ lo lo0) (hu : VP X Γ hi u) (h : cutD ns lo0 u = zs) (hs : Γ[k]? = some (some (.scr ns)) := by rfl) (hN : X.N[k]? = some x := by rfl) (hv : Vis X.env.scope x := by first | exact Or.inl rfl | exact Or.inr (Or.inl rfl) | exact Or.inr (Or.inr rfl))
    (hd : (x == ("__debug__" : Str)) = false := by decide) (hcd : (x == ("__classdict__" : Str)) = false := by decide) : VE X Γ (.Subscript (.Name x p) (.Slice lo hi none p2) pos) (.lst (lfs (zs.map eI))) := fun G0 H0 G H σ I Q q => by
  obtain ⟨v, B, h1, r, _⟩ := I.2.choose_spec.1.get hs
  cases r with
  | @scr _ ad hq =>
    refine ⟨_, pe_slice sl_list (runE X _) (runO X lo) (runO X hi), ⟨_, pe_var hN hv hd hcd, _, h1, hl G0 H0 G H σ I _ fun G2 H2 g2 h2 I2 => hu G0 H0 G2 H2 σ I2 _ fun G3 H3 g3 h3 I3 => ?_⟩⟩
    refine ⟨ad, ns.map V.int, rfl, same_l ((g2.trans g3).trans I3.i) hq, fun l hl => q _ G3 _ (g2.trans g3) ((h2.trans h3).trans (same_new hl)) ?_⟩
    have := new_list I3 (cut_rps (rps_ints (K := X.K) (H := G3) ns) lo0 u) hl
    rw [cutD_map, h] at this
    exact this
/-- a def's promise upon trees that own nothing -/
def SpS (K : Fg) (pre : List OT → OT → Prop) : Sp := fun vs H Q _ => ∃ G os o, Same G H ∧ RepOs K G H os vs [] ∧ pre os o ∧ ∀ v G' H' B, Base G H G' H' → RepO K G' H' o v B → (∀ a ∈ B, H a = none) → Q v H'
def OT.bare : OT → Bool
  | .leaf _ => true
  | .scr _ => true
  | _ => false
theorem RepO.bare {K : Fg} {G H : Hp} {v : V} {A : List Addr} (h : RepO K G H o v A) (b : o.bare = true) : A = [] := by
  cases h <;> first | rfl | cases b
theorem RepOs.bare {K : Fg} {G H : Hp} : ∀ {os : List OT} {vs : List V} {A : List Addr}, RepOs K G H os vs A → os.all OT.bare = true → A = []
  | _, _, _, .nil, _ => rfl
  | _, _, _, .cons h t _, b => by
    simp only [List.all_cons, Bool.and_eq_true] at b
    rw [h.bare b.1, t.bare b.2]
    rfl
def startO (N : List Str) (os : List OT) : Env' := os.map some ++ List.replicate (N.length - os.length) none
theorem satL_bare {K : Fg} {G H : Hp} {n : Nat} : ∀ {vs : List V} {os : List OT}, RepOs K G H os vs [] → SatL K G H (vs.map some ++ List.replicate n none) (os.map some ++ List.replicate n none) [] := by
  intro vs os h
  generalize hA : ([] : List Addr) = A at h
  induction os generalizing vs A with
  | nil => cases h; exact satL_none n
  | cons o os ih =>
    cases h with
    | cons h1 h2 h3 =>
      rename_i A1 B1
      have e1 := List.append_eq_nil_iff.mp hA.symm
      obtain ⟨rfl, rfl⟩ := e1
      exact SatL.one (A := []) (B := []) h1 (ih [] rfl h2) (fun _ h => nomatch h)
theorem startO_inv {K : Fg} {G H : Hp} {N : List Str} {vs : List V} {os : List OT} (e : Same G H) (a : RepOs K G H os vs []) : InvS K G H G H (L2.start N vs) (startO N os) := by
  refine ⟨Base.refl e, [], ?_, fun _ h => nomatch h⟩
  unfold L2.start startO
  rw [← a.len]
  exact satL_bare a
theorem fn_okS {P : Program} {w : World} {K : Fg} {mg : Str → Option Value} {base : Heap} {x : Str} {st : Stmt} {f : Addr} {fd : FuncData} {N ps : List Str} {k : Nat} {pre : List OT → OT → Prop} (F : Fd K x st f fd) (S : FnScope N ps (defScope st)) (hlen : ∀ ds o, pre ds o → ds.length = ps.length)
    (body : ∀ (cdv : Value) (A : Around) (outer : List Env) (s : Shared) (H : Hp) (E : XK), Room k (A.deeper (envOfC x (defScope st) s.heap.objs.size f cdv)) → ∀ ds o, pre ds o →
      VK' (bodyCx P w K mg base N x st f cdv A outer s H E) (defBody st) { nx := fun _ => o = .leaf .none, rt := fun o' => o' = o } (startO N ds)) : FnOk P w K mg base CX0 (k + 1) f fd ps (SpS K pre) := by
  refine F.ok S (fun vs H Q E h => ?_) (fun cdv A outer s H vs Q E hr h => ?_)
  · obtain ⟨G, ds, o, e, a, hp, _⟩ := h
    rw [← a.len]
    exact hlen ds o hp
  · obtain ⟨G, ds, o, e, a, hp, q⟩ := h
    have B := body cdv A outer s H E hr ds o hp
    obtain ⟨t, pt, ht⟩ := B G H G H (L2.start N vs) (startO_inv e a) { nx := fun _ H' => Q .non H', rt := Q } ⟨fun {Γ G' H' σ} n I => by
        have n' : o = .leaf .none := n
        subst n'
        exact q .non G' H' [] I.1 (.leaf .non) (fun _ h => nomatch h), fun n _ => n.elim, fun n _ => n.elim, fun {o' v G' H' B'} n b r f' => by
        have n' : o' = o := n
        subst n'
        exact q v G' H' B' b r f'⟩
    exact ⟨t, pt.nox, ht⟩
theorem ve_callS {x : Str} {p : Pos} {es : List Expr} {k n : Nat} {pre : List OT → OT → Prop} (C : Cal X.prog X.w X.K X.mg X.base k x n (SpS X.K pre)) (hr : Room k X.A) (ha : VMs X Γ (a :: es) os Γ1) (hp : pre os o) (hb0 : os.all OT.bare = true := by rfl) (hg : Gl X x := by rfl)
    (hdb : (x == ("__debug__" : Str)) = false := by decide) (he : starEach (a :: es) X.env = (false, eval a X.env) :: starEach es X.env := by rfl) (hpl : (backTo pos (starEach es X.env)).any (·.1) = false := by rfl) : VM X Γ (.Call (.Name x p) (a :: es) [] pos) o Γ1 := fun G0 H0 G H σ I Q q => by
  obtain ⟨f, fd, ps, F, hm, hk, hb, _⟩ := C.ex
  refine ⟨_, pe_call F hr hg hm hk hb .nil pass0 (runA X (a :: es)) hdb he hpl, ha G0 H0 G H σ I _ fun vs G1 H1 A B g1 h1 b1 s1 f1 a1 f2 d1 => ?_⟩
  rw [List.append_nil]
  have hB := a1.bare hb0
  subst hB
  have I1 : InvS X.K G0 H0 G1 H1 σ Γ1 := ⟨b1, A, s1, f1⟩
  exact ⟨G1, os, o, b1.i, a1, hp, fun v G2 H2 B b2 r2 f2 => q v G2 H2 (g1.trans b2.g) (h1.trans b2.h) (I1.growR b2 r2 f2)⟩
/-- the law's end: what walk_ofE asks for -/
theorem law_sp {K : Fg} {H : Hp} {a : Addr} {ns : List Int} {pre : List OT → OT → Prop} (hq : SqL K H a (ns.map V.int)) (hp : pre [.scr ns] (.leaf (.bool true))) : SpS K pre [.ref a] H (fun v _ => v = .bl true) fun _ _ _ => False :=
  ⟨H, [.scr ns], .leaf (.bool true), Same.refl _, .cons (A := []) (B := []) (.scr hq) .nil (fun _ h => nomatch h), hp, fun v G' H' B b r f => by
    cases r with
    | leaf r => cases r; rfl⟩
end
end V3

/-! V3i: promises that leave the answer open. -/
namespace V3
open PySem PySem.Spec PyProof.Rows L2
@[simp] theorem isInt_i (i : Int) : isInt (.int i) = true := rfl
@[simp] theorem isInt_l (ds : List PyData) : isInt (.list ds) = false := rfl
@[simp] theorem isInt_t (ds : List PyData) : isInt (.tuple ds) = false := rfl
@[simp] theorem isInt_s (s : Str) : isInt (.str s) = false := rfl
@[simp] theorem isInt_n : isInt .none = false := rfl
@[simp] theorem isInt_b (b : Bool) : isInt (.bool b) = true := rfl
@[simp] theorem isBool_i (i : Int) : isBool (.int i) = false := rfl
@[simp] theorem isBool_l (ds : List PyData) : isBool (.list ds) = false := rfl
@[simp] theorem isBool_t (ds : List PyData) : isBool (.tuple ds) = false := rfl
@[simp] theorem isBool_b (b : Bool) : isBool (.bool b) = true := rfl
@[simp] theorem isBool_n : isBool .none = false := rfl
@[simp] theorem isList_i (i : Int) : isList (.int i) = false := rfl
@[simp] theorem isList_l (ds : List PyData) : isList (.list ds) = true := rfl
@[simp] theorem isList_t (ds : List PyData) : isList (.tuple ds) = false := rfl
@[simp] theorem isList_n : isList .none = false := rfl
@[simp] theorem isTup_i (i : Int) : isTup (.int i) = false := rfl
@[simp] theorem isTup_l (ds : List PyData) : isTup (.list ds) = false := rfl
@[simp] theorem isTup_t (ds : List PyData) : isTup (.tuple ds) = true := rfl
@[simp] theorem isTup_n : isTup .none = false := rfl
@[simp] theorem isNone_i (i : Int) : isNone (.int i) = false := rfl
@[simp] theorem isNone_l (ds : List PyData) : isNone (.list ds) = false := rfl
@[simp] theorem isNone_t (ds : List PyData) : isNone (.tuple ds) = false := rfl
@[simp] theorem isNone_n : isNone .none = true := rfl
@[simp] theorem isNone_b (b : Bool) : isNone (.bool b) = false := rfl
/-- how many turns range(i, j, l) has, l positive -/
def rgN (i j l : Int) : Nat := (if i < j then (j - i - 1) / l + 1 else 0).toNat
theorem rgN_lt {i j l : Int} (hl : 0 < l) {m : Nat} : m < rgN i j l ↔ i + m * l < j := by
  unfold rgN
  split
  · rename_i h
    have h0 : 0 ≤ (j - i - 1) / l := Int.ediv_nonneg (by omega) (by omega)
    have e : m < ((j - i - 1) / l + 1).toNat ↔ (m : Int) ≤ (j - i - 1) / l := by omega
    rw [e, Int.le_ediv_iff_mul_le hl]
    omega
  · rename_i h
    have : 0 ≤ (m : Int) * l := Int.mul_nonneg (by omega) (by omega)
    constructor
    · intro h; exact absurd h (by simp)
    · intro h; omega
theorem rgc_up {i j l : Int} (hi : -1000000000000 ≤ i ∧ i < 1000000000000) (hj : -1000000000000 ≤ j ∧ j < 1000000000000) (hl : 0 < l ∧ l < 1000000000) : RgC i j l (rgN i j l) := by
  have e : Builtin.Range.rangeSize i j l = (rgN i j l : Int) := by
    unfold Builtin.Range.rangeSize rgN
    rw [if_pos hl.1]
    split
    · have h0 : 0 ≤ (j - i - 1) / l := Int.ediv_nonneg (by omega) (by omega)
      omega
    · rfl
  have hn : (rgN i j l : Int) ≤ 2000000000000 := by
    unfold rgN
    split
    · have h0 : 0 ≤ (j - i - 1) / l := Int.ediv_nonneg (by omega) (by omega)
      have h1 : (j - i - 1) / l ≤ j - i - 1 := Int.ediv_le_self _ (by omega)
      omega
    · simp
  refine ⟨by omega, by omega, ?_, e⟩
  unfold Builtin.Range.small
  rw [e]
  simp only [Builtin.Range.rangeFitsLong, Bool.and_eq_true, Bool.or_eq_true, decide_eq_true_eq, beq_iff_eq, if_pos hl.1]
  omega
theorem mem_rg1 {lo x : Int} {n : Nat} (h : x ∈ (List.range n).map fun k => lo + ((k : Nat) : Int) * 1) : lo ≤ x ∧ x < lo + n := by
  obtain ⟨k, hk, rfl⟩ := List.mem_map.mp h
  have := List.mem_range.mp hk
  omega
theorem mem_rgl {lo st x : Int} {n : Nat} (h : x ∈ (List.range n).map fun k => lo + ((k : Nat) : Int) * st) : ∃ k : Nat, k < n ∧ x = lo + k * st := by
  obtain ⟨k, hk, rfl⟩ := List.mem_map.mp h
  exact ⟨k, List.mem_range.mp hk, rfl⟩
theorem ixmod (n : Nat) (k : Int) (h : 0 < n) : 0 ≤ k % (n : Int) ∧ (k % (n : Int)).toNat < n := by
  have h0 := Int.emod_nonneg k (show (n : Int) ≠ 0 by omega)
  have h1 := Int.emod_lt_of_pos k (show (0 : Int) < n by omega)
  omega
theorem rgN_le {i j l : Int} (hl : 0 < l) : rgN i j l ≤ (j - i).toNat := by
  rcases Nat.lt_or_ge (j - i).toNat (rgN i j l) with h | h
  · have h1 := (rgN_lt hl (j := j)).mp h
    have h2 : ((j - i).toNat : Int) * 1 ≤ ((j - i).toNat : Int) * l := Int.mul_le_mul_of_nonneg_left (by omega) (by omega)
    omega
  · exact h
theorem mem_rg3 {lo hi st x : Int} (hl : 0 < st) (h : x ∈ (List.range (rgN lo hi st)).map fun k => lo + ((k : Nat) : Int) * st) : lo ≤ x ∧ x < hi := by
  obtain ⟨k, hk, rfl⟩ := List.mem_map.mp h
  have h1 := (rgN_lt hl).mp (List.mem_range.mp hk)
  have h2 : 0 ≤ (k : Int) * st := Int.mul_nonneg (by omega) (by omega)
  omega
theorem isNone_eO {α : Type} {e : α → PyData} (h : ∀ a, isNone (e a) = false) (z : Option α) : isNone (eO e z) = z.isNone := by
  cases z with
  | none => rfl
  | some a => exact h a
/-- e gives some tree of which P holds -/
def VMN (X : Cx) (Γ : Env') (e : Expr) (P : OT → Prop) (Γ' : Env') : Prop := ∀ (G0 H0 G H : Hp) (σ : Sl), InvS X.K G0 H0 G H σ Γ → ∀ Q : VK,
  (∀ o v G' H', P o → Same G G' → Same H H' → InvR X.K G0 H0 G' H' σ Γ' o v → Q v H') → RunE X e σ H Q
def SpN (K : Fg) (pre : List OT → (OT → Prop) → Prop) : Sp := fun vs H Q _ => ∃ G os P, Same G H ∧ RepOs K G H os vs [] ∧ pre os P ∧ ∀ o v G' H' B, P o → Base G H G' H' → RepO K G' H' o v B → (∀ a ∈ B, H a = none) → Q v H'
section
variable {X : Cx} {Γ Γ' Γ1 : Env'} {e a b c : Expr} {pos : Pos} {i j : Int} {d : PyData} {ds : List PyData} {o : OT} {os : List OT} {α β γ : Type} {D : Dn} {P : OT → Prop}
theorem VM.n (h : VM X Γ e o Γ1) (p : P o) : VMN X Γ e P Γ1 := fun G0 H0 G H σ I Q q => h G0 H0 G H σ I Q fun v G' H' g hh r => q o v G' H' p g hh r
theorem VMN.weaken {P' : OT → Prop} (h : VMN X Γ e P Γ1) (p : ∀ o, P o → P' o) : VMN X Γ e P' Γ1 := fun G0 H0 G H σ I Q q => h G0 H0 G H σ I Q fun o v G' H' k g hh r => q o v G' H' (p o k) g hh r
theorem fn_okN {Pg : Program} {w : World} {K : Fg} {mg : Str → Option Value} {base : Heap} {x : Str} {st : Stmt} {f : Addr} {fd : FuncData} {N ps : List Str} {k : Nat} {pre : List OT → (OT → Prop) → Prop} (F : Fd K x st f fd) (S : FnScope N ps (defScope st)) (hlen : ∀ ds o, pre ds o → ds.length = ps.length)
    (body : ∀ (cdv : Value) (A : Around) (outer : List Env) (s : Shared) (H : Hp) (E : XK), Room k (A.deeper (envOfC x (defScope st) s.heap.objs.size f cdv)) → ∀ ds P, pre ds P →
      VK' (bodyCx Pg w K mg base N x st f cdv A outer s H E) (defBody st) { nx := fun _ => P (.leaf .none), rt := P } (startO N ds)) : FnOk Pg w K mg base CX0 (k + 1) f fd ps (SpN K pre) := by
  refine F.ok S (fun vs H Q E h => ?_) (fun cdv A outer s H vs Q E hr h => ?_)
  · obtain ⟨G, ds, o, e, a, hp, _⟩ := h
    rw [← a.len]
    exact hlen ds o hp
  · obtain ⟨G, ds, o, e, a, hp, q⟩ := h
    have B := body cdv A outer s H E hr ds o hp
    obtain ⟨t, pt, ht⟩ := B G H G H (L2.start N vs) (startO_inv e a) { nx := fun _ H' => Q .non H', rt := Q } ⟨fun {Γ G' H' σ} n I =>
        q _ .non G' H' [] n I.1 (.leaf .non) (fun _ h => nomatch h), fun n _ => n.elim, fun n _ => n.elim, fun {o' v G' H' B'} n b r f' =>
        q o' v G' H' B' n b r f'⟩
    exact ⟨t, pt.nox, ht⟩
theorem ve_callN {x : Str} {p : Pos} {es : List Expr} {k n : Nat} {pre : List OT → (OT → Prop) → Prop} (C : Cal X.prog X.w X.K X.mg X.base k x n (SpN X.K pre)) (hr : Room k X.A) (ha : VMs X Γ (a :: es) os Γ1) (hp : pre os P) (hb0 : os.all OT.bare = true := by rfl) (hg : Gl X x := by rfl)
    (hdb : (x == ("__debug__" : Str)) = false := by decide) (he : starEach (a :: es) X.env = (false, eval a X.env) :: starEach es X.env := by rfl) (hpl : (backTo pos (starEach es X.env)).any (·.1) = false := by rfl) : VMN X Γ (.Call (.Name x p) (a :: es) [] pos) P Γ1 := fun G0 H0 G H σ I Q q => by
  obtain ⟨f, fd, ps, F, hm, hk, hb, _⟩ := C.ex
  refine ⟨_, pe_call F hr hg hm hk hb .nil pass0 (runA X (a :: es)) hdb he hpl, ha G0 H0 G H σ I _ fun vs G1 H1 A B g1 h1 b1 s1 f1 a1 f2 d1 => ?_⟩
  rw [List.append_nil]
  have hB := a1.bare hb0
  subst hB
  have I1 : InvS X.K G0 H0 G1 H1 σ Γ1 := ⟨b1, A, s1, f1⟩
  exact ⟨G1, os, P, b1.i, a1, hp, fun o v G2 H2 B k b2 r2 f2 => q o v G2 H2 k (g1.trans b2.g) (h1.trans b2.h) (I1.growR b2 r2 f2)⟩
/-- what a def of such a promise leaves: some data, some list of one's own -/
def someD (en : α → PyData) (R : α → Prop) : OT → Prop := fun o => ∃ v, o = .leaf (en v) ∧ R v
def someL (en : α → PyData) (R : List α → Prop) : OT → Prop := fun o => ∃ v, o = .lst (lfs (v.map en)) ∧ R v
theorem VMN.frzN {en : α → PyData} {R : List α → Prop} (h : VMN X Γ e (someL en R) Γ1) : VMN X Γ e (someD (eL en) R) Γ1 := fun G0 H0 G H σ I Q q => h G0 H0 G H σ I Q fun o v G' H' k g hh r => by
  obtain ⟨w, rfl, hw⟩ := k
  obtain ⟨G2, e2, r2⟩ := r.freeze (plains_lfs _)
  exact q (.leaf (eL en w)) v G2 H' ⟨w, rfl, hw⟩ (g.trans e2) hh (by
    have e3 : OT.data (.lst (lfs (w.map en))) = eL en w := congrArg PyData.list (datas_lfs _)
    rw [e3] at r2
    exact r2)
theorem vs_setN {x : Str} {p : Pos} (k : Nat) {en : α → PyData} {R : α → Prop} (he : VMN X Γ e (someD en R) Γ1) (hN : X.N.Nodup) (h : ∀ y, R y → D.nx (Γ1.set k (some (.leaf (en y))))) (hi : X.N[k]? = some x := by rfl) (hx : Loc X.env.scope x := by first | exact Or.inl rfl | exact Or.inr rfl)
    (hsw : swapsWith e (some (.Name x p)) pos.line X.env = pure false := by rfl) (hf : X.fn x = true ∨ X.env.scope.names.lookup x = some .local := by first | exact .inl rfl | exact .inr rfl) : VS X (.Assign [.Name x p] e pos) D Γ := fun G0 H0 G H σ I D0 L =>
  ⟨_, ps_set hN hi hx (runE X e) hsw hf, he G0 H0 G H σ I _ fun o v G1 H1 k' g1 h1 r => by
    obtain ⟨w, rfl, hw⟩ := k'
    exact L.nx (h w hw) (r.put k)⟩
theorem vs_setNO {x : Str} {p : Pos} (k : Nat) {en : α → PyData} {R : List α → Prop} (he : VMN X Γ e (someL en R) Γ1) (hN : X.N.Nodup) (h : ∀ y, R y → D.nx (Γ1.set k (some (.lst (lfs (y.map en)))))) (hi : X.N[k]? = some x := by rfl) (hx : Loc X.env.scope x := by first | exact Or.inl rfl | exact Or.inr rfl)
    (hsw : swapsWith e (some (.Name x p)) pos.line X.env = pure false := by rfl) (hf : X.fn x = true ∨ X.env.scope.names.lookup x = some .local := by first | exact .inl rfl | exact .inr rfl) : VS X (.Assign [.Name x p] e pos) D Γ := fun G0 H0 G H σ I D0 L =>
  ⟨_, ps_set hN hi hx (runE X e) hsw hf, he G0 H0 G H σ I _ fun o v G1 H1 k' g1 h1 r => by
    obtain ⟨w, rfl, hw⟩ := k'
    exact L.nx (h w hw) (r.put k)⟩
theorem vs_retNN (he : VMN X Γ e P Γ1) (h : ∀ o, P o → D.rt o) : VS X (.Return (some e) pos) D Γ := fun G0 H0 G H σ I D0 L =>
  ⟨_, ps_ret (runE X e), he G0 H0 G H σ I _ fun o v G1 H1 k g1 h1 ⟨b, A, B, s, fa, r, fb, d⟩ => L.rt (h o k) b r fb⟩
/-- a part of an open pair -/
theorem vnfst {ea : α → PyData} {eb : β → PyData} {R : α × β → Prop} (ha : VMN X Γ a (someD (e2 ea eb) R) Γ) (hb : VD X Γ b (.int 0)) (hs : PlainIx b := by exact fun _ _ => rfl) : VMN X Γ (.Subscript a b pos) (someD ea fun u => ∃ v, R (u, v)) Γ := fun G0 H0 G H σ I Q q =>
  ⟨_, pe_ix ix_tup (runE X a) (runE X b) hs, ha G0 H0 G H σ I _ fun o v G1 H1 k g1 h1 r1 => hb G0 H0 G1 H1 σ r1.s _ fun w G2 H2 g2 h2 r2 => by
    obtain ⟨⟨u, t⟩, rfl, hw⟩ := k
    have e2 := leaf_inv r2
    cases e2
    have e1 := leaf_inv r1
    cases e1 with
    | tup hp hv =>
      cases hv with
      | @cons v1 vs1 _ _ h1' h2' =>
      cases h2' with
      | cons h3' h4' =>
      cases h4'
      refine ⟨_, _, 0, v1, rfl, rfl, .inl (.inl (h2 _ _ (r1.s.i _ _ hp))), rfl, q (.leaf (ea u)) v1 G2 H2 ⟨u, rfl, t, hw⟩ (g1.trans g2) (h1.trans h2) (r2.s.leafR (dp_mono g2 h1'))⟩⟩
theorem law_spN {K : Fg} {H : Hp} {a : Addr} {ns : List Int} {pre : List OT → (OT → Prop) → Prop} (hq : SqL K H a (ns.map V.int)) (hp : pre [.scr ns] (someD eB fun r => r = true)) : SpN K pre [.ref a] H (fun v _ => v = .bl true) fun _ _ _ => False :=
  ⟨H, [.scr ns], _, Same.refl _, .cons (A := []) (B := []) (.scr hq) .nil (fun _ h => nomatch h), hp, fun o v G' H' B k b r f => by
    obtain ⟨_, rfl, rfl⟩ := k
    cases r with
    | leaf r => cases r; rfl⟩
end
end V3

/-! V3j: xs.count(k), texts, the least number. -/
namespace V3
open PySem PySem.Spec PyProof.Rows L2
section
variable {X : Cx} {Γ Γ' Γ1 : Env'} {e a b c : Expr} {pos apos cpos : Pos} {i j : Int} {d : PyData} {ds : List PyData} {o : OT} {os : List OT} {α β γ : Type} {D : Dn}
theorem rps_isInts {K : Fg} {H : Hp} : ∀ {ns : List Int} {vs : List V}, Rps K H vs (ns.map eI) → vs = ns.map V.int
  | [], _, h => by cases h; rfl
  | n :: ns, _, h => by
    cases h with
    | cons x y =>
      cases x
      rw [rps_isInts y]
      rfl
theorem ve_countI {ns : List Int} {k : Int} (ha : VL X Γ a (ns.map eI)) (hb : VD X Γ b (.int k)) (hbase : attributeBase a "count" X.env (eval a X.env) = eval a X.env := by rfl)
    (hfew : ((backTo cpos (starEach [b] X.env)).all (fun x => !x.1) && (backToKw cpos (keywordEach [] X.env)).all (fun x => x.1.isSome) && decide ([b].length + ([] : List Keyword).length + (if ([] : List Keyword).isEmpty then 0 else 1) < 30)) = true := by rfl)
    (hline : (apos.endLine == cpos.line) = true := by rfl) (hst : starEach [b] X.env = [(false, eval b X.env)] := by rfl) : VD X Γ (.Call (.Attribute a "count" apos) [b] [] cpos) (.int ((ns.count k : Nat) : Int)) := fun G0 H0 G H σ I Q q => by
  refine ⟨_, pe_bm PySem.F.plainAttrs_list PySem.F.slot_list_count PySem.F.type_list_count mt_lcount (runE X a) (runA X [b]) hbase hfew hline hst (by rfl), ?_⟩
  refine ha G0 H0 G H σ I _ fun p vs G1 H1 g1 h1 I1 hp a1 => ?_
  refine ⟨.inl ⟨rfl, vs, .of hp⟩, run_view1 (P := fun _ _ _ => True) (G := G1) hst (hb G0 H0 G1 H1 σ I1 _ fun v G2 H2 g2 h2 r2 => ?_)⟩
  have e2 := leaf_inv r2
  cases e2
  have ev := rps_isInts a1
  subst ev
  exact ⟨p, ns, k, rfl, rfl, .of (h2 _ _ hp), q _ G2 H2 (g1.trans g2) (h1.trans h2) (r2.s.leafR (.int _))⟩
theorem tup1 {u : PyData} {k : Nat} (ha : VD X Γ a u) (hs : starEach [a] X.env = [(false, eval a X.env)] := by rfl) : VD X Γ (.Tuple [a] k pos) (.tuple [u]) := ve_tupL (va_cons ha va_nil hs) (by simp)
theorem least {P : Nat → Prop} (h : ∃ n, P n) : ∃ n, P n ∧ ∀ m, m < n → ¬ P m := by
  obtain ⟨n, hn⟩ := h
  induction n using Nat.strongRecOn with
  | _ n ih =>
    by_cases h : ∃ m, m < n ∧ P m
    · obtain ⟨m, h1, h2⟩ := h
      exact ih m h1 h2
    · exact ⟨n, hn, fun m hm hp => h ⟨m, hm, hp⟩⟩
end
end V3

/-! V3k: a loop over a list that a promise leaves open. -/
namespace V3
open PySem PySem.Spec PyProof.Rows L2
section
variable {X : Cx} {Γ Γ' Γ1 : Env'} {e a b c iter : Expr} {pos apos cpos : Pos} {i j : Int} {d : PyData} {ds : List PyData} {o : OT} {os : List OT} {α β γ : Type} {D : Dn}
theorem vs_forU {x : Str} {p : Pos} {body : List Stmt} {en : α → PyData} {R : List α → Prop} (k : Nat) (hi : VMN X Γ iter (someD (eL en) R) Γ) (W : List α → Nat → Env' → Prop) (hN : X.N.Nodup) (h0 : ∀ xs, R xs → W xs 0 Γ)
    (hs : ∀ xs, R xs → ∀ (m : Nat) (y : α) Γ', xs[m]? = some y → W xs m Γ' → VK' X body { D with nx := W xs (m + 1), ct := W xs (m + 1), bk := D.nx } (Γ'.set k (some (.leaf (en y))))) (hd : ∀ xs, R xs → ∀ Γ', W xs xs.length Γ' → D.nx Γ')
    (hix : X.N[k]? = some x := by rfl) (hx : Loc X.env.scope x := by first | exact Or.inl rfl | exact Or.inr rfl) (hfn : X.fn x = true ∨ X.env.scope.names.lookup x = some .local := by first | exact .inl rfl | exact .inr rfl)
    (hc : X.calm = true := by rfl) (hp : PassesOwn (model X.prog X.w) X.A X.env X.xe := by exact PassesOwn.never) (hf : ∀ x, foldedSetIterable iter X.env x = pure x := by intro _; rfl) : VS X (.For (.Name x p) iter body [] pos) D Γ := fun G0 H0 G H σ I D0 L => by
  have hg : VG X (.Name x p) [k] sp1 := vg_name k hN hix hx hfn
  refine ⟨_, ps_for hp hc (pi_list (runE X iter)) (runG X (.Name x p)) (runB X body) hf, hi G0 H0 G H σ I _ fun o v G1 H1 hR g1 h1 r => ?_⟩
  obtain ⟨xs, rfl, hxs⟩ := hR
  have e := leaf_inv r
  cases e with
  | lst hpp a =>
    rename_i q vs
    have len : vs.length = xs.length := by rw [dps_len a, List.length_map]
    refine ⟨q, rfl, ⟨vs, .of (r.s.i _ _ hpp)⟩, fun n m σ H => m = xs.length - n ∧ n ≤ xs.length ∧ ∃ Γ' G', Same G1 G' ∧ InvS X.K G0 H0 G' H σ Γ' ∧ W xs n Γ', ⟨xs.length, by simp, Nat.zero_le _, Γ, G1, Same.refl _, r.s, h0 xs hxs⟩, ?_⟩
    rintro n m σ2 H2 ⟨rfl, hn, Γ2, G2, g2, I2, w⟩
    have hq2 : H2 q = some (.lst vs) := I2.i _ _ (g2 _ _ hpp)
    by_cases hlt : n < xs.length
    · have hvn : vs[n]? = some vs[n] := List.getElem?_eq_getElem (by omega)
      refine .inr ⟨⟨vs, vs[n], .of hq2, hvn⟩, fun σ3 H3 => ∃ Γ3 G3, Same G1 G3 ∧ InvS X.K G0 H0 G3 H3 σ3 Γ3 ∧ W xs (n + 1) Γ3, fun σ' H' ⟨Γ3, G3, g3, I3, w3⟩ => ⟨xs.length - (n + 1), by omega, rfl, hlt, Γ3, G3, g3, I3, w3⟩, fun y H' yy => ?_⟩
      obtain ⟨e, hy⟩ := yy
      subst e
      have hyv := hy vs (.of hq2)
      obtain ⟨d', hd', rd⟩ := dps_get' a hyv
      have hxn : xs[n]? = some xs[n] := List.getElem?_eq_getElem hlt
      rw [List.getElem?_map, hxn] at hd'
      cases hd'
      have hb := hs xs hxs n xs[n] Γ2 hxn w
      obtain ⟨us, ua, qq⟩ := hg G2 H' σ2 y (en xs[n]) [en xs[n]] I2.i (dp_mono g2 rd) rfl
      refine qq _ ?_
      have I2' : InvS X.K G0 H0 G2 H' (puts σ2 [k] us) (putsG Γ2 [k] [en xs[n]]) := I2.puts ua
      obtain ⟨Hx, Ix, fx, bx⟩ := I2'.rebase
      have back : ∀ {Γ3 : Env'} {G3 H3 : Hp} {σ3 : Sl}, InvS X.K G2 Hx G3 H3 σ3 Γ3 → InvS X.K G0 H0 G3 H3 σ3 Γ3 := fun {_ G3 H3 _} ⟨b3, A3, s3, f3⟩ => ⟨bx G3 H3 b3, A3, s3, fun a ha => fx a (f3 a ha)⟩
      exact hb G2 Hx G2 H' (puts σ2 [k] us) Ix _ ⟨fun n I' => ⟨_, _, g2.trans I'.1.g, back I', n⟩, fun n I' => L.nx n (back I'), fun n I' => ⟨_, _, g2.trans I'.1.g, back I', n⟩, fun n b3 r3 f3 => L.rt n (bx _ _ b3) r3 fun a ha => fx a (f3 a ha)⟩
    · have e : n = xs.length := by omega
      subst e
      exact .inl ⟨⟨vs, .of hq2, by omega⟩, L.nx (hd xs hxs _ w) I2⟩
end
end V3

/-! partM: partings of the days into classes (offset, period), in plain Lean. -/
namespace My
open V3
abbrev Cl := Int × Int
def Ok (p : Cl) : Prop := 1 ≤ p.2 ∧ 0 ≤ p.1 ∧ p.1 < p.2
def hit (x : Int) (p : Cl) : Bool := decide ((x - p.1) % p.2 = 0)
structure Part (cs : List Cl) : Prop where
  ok : ∀ p ∈ cs, Ok p
  cov : ∀ x : Int, cs.countP (hit x) = 1
theorem hit_iff {x : Int} {p : Cl} : hit x p = true ↔ p.2 ∣ x - p.1 := by
  rw [hit, decide_eq_true_eq, Int.dvd_iff_emod_eq_zero]
/-- Bezout -/
theorem bez_nat : ∀ (m n : Nat), ∃ u v : Int, ((Nat.gcd m n : Nat) : Int) = m * u + n * v := by
  intro m n
  induction m, n using Nat.gcd.induction with
  | H0 n => exact ⟨0, 1, by simp⟩
  | H1 m n hm ih =>
    obtain ⟨u, v, h⟩ := ih
    refine ⟨v - (n / m : Nat) * u, u, ?_⟩
    rw [Nat.gcd_rec, h]
    have e := Nat.mod_add_div n m
    have e' : ((n % m : Nat) : Int) = n - m * (n / m : Nat) := by omega
    rw [e']
    simp only [Int.mul_sub, Int.sub_mul]
    have : (m : Int) * (↑(n / m) * u) = ↑m * ↑(n / m) * u := (Int.mul_assoc _ _ _).symm
    omega
theorem bez (m n : Int) : ∃ u v : Int, ((Int.gcd m n : Nat) : Int) = m * u + n * v := by
  obtain ⟨u, v, h⟩ := bez_nat m.natAbs n.natAbs
  have e : Int.gcd m n = Nat.gcd m.natAbs n.natAbs := rfl
  rw [e, h]
  rcases Int.natAbs_eq m with hm | hm <;> rcases Int.natAbs_eq n with hn | hn
  · exact ⟨u, v, by rw [← hm, ← hn]⟩
  · exact ⟨u, -v, by rw [← hm]; have : n * -v = ((n.natAbs : Nat) : Int) * v := by rw [Int.mul_neg, ← Int.neg_mul]; congr 1; omega
                     omega⟩
  · exact ⟨-u, v, by rw [← hn]; have : m * -u = ((m.natAbs : Nat) : Int) * u := by rw [Int.mul_neg, ← Int.neg_mul]; congr 1; omega
                     omega⟩
  · refine ⟨-u, -v, ?_⟩
    have h1 : m * -u = ((m.natAbs : Nat) : Int) * u := by rw [Int.mul_neg, ← Int.neg_mul]; congr 1; omega
    have h2 : n * -v = ((n.natAbs : Nat) : Int) * v := by rw [Int.mul_neg, ← Int.neg_mul]; congr 1; omega
    omega
/-- two classes whose offsets agree modulo the common divisor share a day -/
theorem crt {m n a b : Int} (h : ((Int.gcd m n : Nat) : Int) ∣ a - b) : ∃ x, m ∣ x - a ∧ n ∣ x - b := by
  obtain ⟨u, v, e⟩ := bez m n
  obtain ⟨q, hq⟩ := h
  refine ⟨a - m * (u * q), ⟨-(u * q), ?_⟩, ⟨v * q, ?_⟩⟩
  · rw [Int.mul_neg]; omega
  · rw [e, Int.add_mul, Int.mul_assoc, Int.mul_assoc] at hq
    omega
theorem Part.uniq {cs : List Cl} (h : Part cs) {x : Int} {p q : Cl} (hp : p ∈ cs) (hq : q ∈ cs) (h1 : hit x p = true) (h2 : hit x q = true) : p = q := by
  have c := h.cov x
  rw [List.countP_eq_length_filter, List.length_eq_one_iff] at c
  obtain ⟨r, hr⟩ := c
  have e1 : p ∈ cs.filter (hit x) := List.mem_filter.mpr ⟨hp, h1⟩
  have e2 : q ∈ cs.filter (hit x) := List.mem_filter.mpr ⟨hq, h2⟩
  rw [hr] at e1 e2
  rw [List.mem_singleton.mp e1, List.mem_singleton.mp e2]
def meetB (p q : Cl) : Bool := decide ((p.1 - q.1) % (Int.gcd p.2 q.2 : Int) = 0)
theorem apart_of : ∀ {cs : List Cl}, (∀ x : Int, cs.countP (hit x) ≤ 1) → cs.Pairwise fun p q => meetB p q = false
  | [], _ => .nil
  | p :: cs, h => by
    refine List.pairwise_cons.mpr ⟨fun q hq => ?_, apart_of fun x => ?_⟩
    · rw [meetB, decide_eq_false_iff_not]
      intro e
      obtain ⟨x, h1, h2⟩ := crt (Int.dvd_of_emod_eq_zero e)
      have c := h x
      rw [List.countP_cons_of_pos (hit_iff.mpr h1)] at c
      have : 0 < cs.countP (hit x) := List.countP_pos_iff.mpr ⟨q, hq, hit_iff.mpr h2⟩
      omega
    · have c := h x
      rw [List.countP_cons] at c
      omega
theorem Part.apart {cs : List Cl} (h : Part cs) : cs.Pairwise fun p q => meetB p q = false := apart_of fun x => by rw [h.cov x]; exact Nat.le_refl _
theorem Part.ne {cs : List Cl} (h : Part cs) : cs ≠ [] := fun e => by have := h.cov 0; rw [e] at this; exact absurd this (by decide)
theorem Part.perm {cs ds : List Cl} (h : Part cs) (e : ds.Perm cs) : Part ds := ⟨fun p hp => h.ok p (e.mem_iff.mp hp), fun x => by rw [e.countP_eq]; exact h.cov x⟩
/-! ### one day in a block -/
theorem cnt_eq (x0 : Nat) : ∀ n : Nat, (List.range n).countP (fun x => decide (x = x0)) = if x0 < n then 1 else 0
  | 0 => by simp
  | n + 1 => by
    rw [List.range_succ, List.countP_append, cnt_eq x0 n]
    by_cases h : n = x0
    · subst h; simp
    · rw [List.countP_cons_of_neg (by simpa using h)]
      simp only [List.countP_nil]
      by_cases h2 : x0 < n
      · rw [if_pos h2, if_pos (by omega)]
      · rw [if_neg h2, if_neg (by omega)]
theorem block (a : Int) (m : Nat) (hm : 0 < m) : (List.range m).countP (fun (x : Nat) => decide (((x : Int) - a) % m = 0)) = 1 := by
  have e : (List.range m).countP (fun (x : Nat) => decide (((x : Int) - a) % m = 0)) = (List.range m).countP (fun x => decide (x = (a % m).toNat)) := by
    refine List.countP_congr fun x hx => ?_
    have hx' := List.mem_range.mp hx
    have h0 := Int.emod_nonneg a (show (m : Int) ≠ 0 by omega)
    have h1 := Int.emod_lt_of_pos a (show (0 : Int) < m by omega)
    have z : (x : Int) % m = x := Int.emod_eq_of_lt (by omega) (by omega)
    rw [decide_eq_true_eq, decide_eq_true_eq, ← Int.emod_eq_emod_iff_emod_sub_eq_zero, z]
    omega
  rw [e, cnt_eq]
  have h0 := Int.emod_nonneg a (show (m : Int) ≠ 0 by omega)
  have h1 := Int.emod_lt_of_pos a (show (0 : Int) < m by omega)
  rw [if_pos (by omega)]
theorem cnt_mul (a : Int) (m : Nat) (hm : 0 < m) : ∀ q : Nat, (List.range (m * q)).countP (fun (x : Nat) => decide (((x : Int) - a) % m = 0)) = q
  | 0 => by simp
  | q + 1 => by
    rw [Nat.mul_succ, List.range_add, List.countP_append, cnt_mul a m hm q, List.countP_map]
    have e : ((fun (x : Nat) => decide (((x : Int) - a) % m = 0)) ∘ fun x => m * q + x) = fun (x : Nat) => decide (((x : Int) - a) % m = 0) := by
      funext x
      show decide ((((m * q + x : Nat) : Int) - a) % m = 0) = _
      have : (((m * q + x : Nat) : Int) - a) = ((x : Int) - a) + m * q := by push_cast; omega
      rw [this, Int.add_mul_emod_self_left]
    rw [e, block a m hm]
theorem sum_cnt (N : Nat) : ∀ cs : List Cl, ((List.range N).map fun (x : Nat) => cs.countP (hit x)).sum = (cs.map fun p => (List.range N).countP fun (x : Nat) => hit x p).sum
  | [] => by induction N with
    | zero => rfl
    | succ n ih => rw [List.range_succ, List.map_append, List.sum_append, ih]; rfl
  | p :: cs => by
    rw [List.map_cons, List.sum_cons, ← sum_cnt N cs]
    generalize List.range N = l
    induction l with
    | nil => rfl
    | cons x l ih =>
      simp only [List.map_cons, List.sum_cons, List.countP_cons] at ih ⊢
      omega
theorem Part.shares {cs : List Cl} (h : Part cs) {N : Int} (hN : 0 < N) (hd : ∀ p ∈ cs, p.2 ∣ N) : (cs.map fun p => N / p.2).sum = N := by
  have s := sum_cnt N.toNat cs
  have e1 : ((List.range N.toNat).map fun (x : Nat) => cs.countP (hit x)) = List.replicate N.toNat 1 := by
    rw [List.eq_replicate_iff]
    refine ⟨by simp, fun b hb => ?_⟩
    obtain ⟨x, _, rfl⟩ := List.mem_map.mp hb
    exact h.cov x
  rw [e1, List.sum_replicate_nat] at s
  have e2 : ∀ p ∈ cs, ((List.range N.toNat).countP fun (x : Nat) => hit x p) = (N / p.2).toNat := fun p hp => by
    obtain ⟨q, hq⟩ := hd p hp
    have o := (h.ok p hp).1
    have hq0 : 0 < q := by
      rcases Int.lt_or_le 0 q with h | h
      · exact h
      · have := Int.mul_nonpos_of_nonneg_of_nonpos (show 0 ≤ p.2 by omega) h
        omega
    have d : N / p.2 = q := by rw [hq]; exact Int.mul_ediv_cancel_left _ (by omega)
    have eN : N.toNat = p.2.toNat * q.toNat := by rw [hq, Int.toNat_mul (by omega) (by omega)]
    have := cnt_mul p.1 p.2.toNat (by omega) q.toNat
    rw [eN, d]
    refine Eq.trans ?_ this
    refine List.countP_congr fun x _ => ?_
    rw [hit, show ((p.2.toNat : Nat) : Int) = p.2 by omega]
  have e3 : (cs.map fun p => (List.range N.toNat).countP fun (x : Nat) => hit x p) = cs.map fun p => (N / p.2).toNat := List.map_congr_left e2
  rw [e3] at s
  have e4 : ∀ l : List Cl, (∀ p ∈ l, 0 ≤ N / p.2) → (((l.map fun p => (N / p.2).toNat).sum : Nat) : Int) = (l.map fun p => N / p.2).sum := by
    intro l
    induction l with
    | nil => intro _; rfl
    | cons p l ih =>
      intro hl
      rw [List.map_cons, List.sum_cons, List.map_cons, List.sum_cons, ← ih fun q hq => hl q (List.mem_cons_of_mem _ hq)]
      have := hl p List.mem_cons_self
      omega
  rw [← e4 cs fun p hp => Int.ediv_nonneg (by omega) (by have := (h.ok p hp).1; omega)]
  omega
/-! ### the round -/
def lcmF (t : Int) (p : Cl) : Int := t / (Int.gcd t p.2 : Int) * p.2
def rnd (cs : List Cl) : Int := cs.foldl lcmF 1
theorem lcmF_facts {t : Int} {p : Cl} (ht : 0 < t) (hp : 1 ≤ p.2) : 0 < lcmF t p ∧ t ∣ lcmF t p ∧ p.2 ∣ lcmF t p := by
  have g0 : 0 < (Int.gcd t p.2 : Int) := by have := Int.gcd_pos_of_ne_zero_left p.2 (show t ≠ 0 by omega); omega
  obtain ⟨u, hu⟩ := Int.gcd_dvd_left t p.2
  obtain ⟨v, hv⟩ := Int.gcd_dvd_right t p.2
  have du : t / (Int.gcd t p.2 : Int) = u := by conv => lhs; lhs; rw [hu]
                                                exact Int.mul_ediv_cancel_left _ (by omega)
  have u0 : 0 < u := by
    rw [← du]
    exact Int.ediv_pos_of_pos_of_dvd ht (by omega) (Int.gcd_dvd_left t p.2)
  refine ⟨?_, ?_, ?_⟩
  · rw [lcmF, du]; exact Int.mul_pos u0 (by omega)
  · refine ⟨v, ?_⟩
    rw [lcmF, du]
    conv => lhs; rw [hv]
    conv => rhs; rw [hu]
    rw [← Int.mul_assoc, Int.mul_comm u]
  · rw [lcmF]; exact Int.dvd_mul_left _ _
theorem rnd_facts : ∀ (cs : List Cl) (t : Int), 0 < t → (∀ p ∈ cs, 1 ≤ p.2) → 0 < cs.foldl lcmF t ∧ t ∣ cs.foldl lcmF t ∧ ∀ p ∈ cs, p.2 ∣ cs.foldl lcmF t
  | [], t, ht, _ => ⟨ht, Int.dvd_refl _, fun _ h => nomatch h⟩
  | p :: cs, t, ht, hc => by
    obtain ⟨a, b, c⟩ := lcmF_facts ht (hc p List.mem_cons_self)
    obtain ⟨a', b', c'⟩ := rnd_facts cs (lcmF t p) a fun q hq => hc q (List.mem_cons_of_mem _ hq)
    refine ⟨a', Int.dvd_trans b b', fun q hq => ?_⟩
    rcases List.mem_cons.mp hq with rfl | hq
    · exact Int.dvd_trans c b'
    · exact c' q hq
theorem Part.fill {cs : List Cl} (h : Part cs) : (cs.map fun p => rnd cs / p.2).sum = rnd cs := by
  obtain ⟨a, _, c⟩ := rnd_facts cs 1 (by decide) fun p hp => (h.ok p hp).1
  exact h.shares a c
theorem rnd_alt {t : Int} {p : Cl} : t * p.2 / (Int.gcd t p.2 : Int) = lcmF t p := by
  rw [lcmF, Int.mul_comm t, Int.mul_ediv_assoc _ (Int.gcd_dvd_left t p.2), Int.mul_comm]
/-! ### order -/
def Srt (cs : List Cl) : Prop := cs.Pairwise fun p q => leP q p = false
theorem leP_total (p q : Cl) : (leP p q || leP q p) = true := by
  unfold leP
  simp only [Bool.or_eq_true, decide_eq_true_eq]
  omega
theorem leP_trans (p q r : Cl) : leP p q = true → leP q r = true → leP p r = true := by
  unfold leP
  simp only [decide_eq_true_eq]
  omega
theorem leP_anti {p q : Cl} : leP p q = true → leP q p = true → p = q := by
  unfold leP
  simp only [decide_eq_true_eq]
  intro h1 h2
  exact Prod.ext (by omega) (by omega)
theorem Part.nodup {cs : List Cl} (h : Part cs) : cs.Nodup := by
  refine (h.apart.imp_of_mem ?_)
  intro p q hp hq hm e
  subst e
  rw [meetB, decide_eq_false_iff_not] at hm
  exact hm (by simp)
theorem Part.srt {cs : List Cl} (h : Part cs) : Srt (cs.mergeSort leP) := by
  have s := List.pairwise_mergeSort leP_trans leP_total cs
  have n : (cs.mergeSort leP).Nodup := (List.mergeSort_perm cs leP).nodup_iff.mpr h.nodup
  refine (s.and n).imp ?_
  rintro p q ⟨h1, h2⟩
  rw [← Bool.not_eq_true]
  exact fun h3 => h2 (leP_anti h1 h3)
theorem Srt.at {cs : List Cl} (h : Srt cs) {i : Nat} (h0 : 0 < i) (h1 : i < cs.length) (d : Cl) : leP (cs.getD i d) (cs.getD (i - 1) d) = false := by
  have := List.pairwise_iff_getElem.mp h (i - 1) i (by omega) h1 (by omega)
  simpa [List.getD_eq_getElem?_getD, List.getElem?_eq_getElem h1, List.getElem?_eq_getElem (show i - 1 < cs.length by omega)] using this
/-! ### a class split -/
def parts (p : Cl) (t : Int) : List Cl := (List.range t.toNat).map fun (k : Nat) => (p.1 + k * p.2, t * p.2)
def splitL (cs : List Cl) (n : Nat) (t : Int) : List Cl := (cs.take n ++ cs.drop (n + 1) ++ parts (cs.getD n (0, 0)) t).mergeSort leP
theorem cnt_parts {p : Cl} {t : Int} (hp : Ok p) (ht : 1 ≤ t) (x : Int) : (parts p t).countP (hit x) = if hit x p = true then 1 else 0 := by
  rw [parts, List.countP_map]
  have hp2 := hp.1
  split
  · rename_i h
    obtain ⟨q, hq⟩ := hit_iff.mp h
    rw [← block q t.toNat (by omega)]
    refine List.countP_congr fun k _ => ?_
    show hit x (p.1 + k * p.2, t * p.2) = true ↔ _
    rw [hit_iff, decide_eq_true_eq, ← Int.dvd_iff_emod_eq_zero, show ((t.toNat : Nat) : Int) = t by omega]
    have e : x - (p.1 + (k : Int) * p.2) = p.2 * (q - k) := by rw [Int.mul_sub, ← hq, Int.mul_comm p.2]; omega
    show t * p.2 ∣ x - (p.1 + (k : Int) * p.2) ↔ _
    rw [e, Int.mul_comm t, Int.mul_dvd_mul_iff_left (by omega)]
    rw [← Int.dvd_neg, Int.neg_sub]
  · rename_i h
    rw [List.countP_eq_zero]
    intro k _ hk
    refine h (hit_iff.mpr ?_)
    have hk' : hit x (p.1 + k * p.2, t * p.2) = true := hk
    have d := hit_iff.mp hk'
    have d2 : p.2 ∣ x - (p.1 + (k : Int) * p.2) := Int.dvd_trans (Int.dvd_mul_left _ _) d
    have e : x - p.1 = (x - (p.1 + (k : Int) * p.2)) + (k : Int) * p.2 := by omega
    rw [e]
    exact Int.dvd_add d2 (Int.dvd_mul_left _ _)
theorem split_perm (cs : List Cl) (n : Nat) (t : Int) : (splitL cs n t).Perm (cs.take n ++ cs.drop (n + 1) ++ parts (cs.getD n (0, 0)) t) := List.mergeSort_perm _ _
theorem cut_perm {cs : List Cl} {n : Nat} (hn : n < cs.length) : cs.Perm (cs.getD n (0, 0) :: (cs.take n ++ cs.drop (n + 1))) := by
  have e : cs = cs.take n ++ cs.getD n (0, 0) :: cs.drop (n + 1) := by
    conv => lhs; rw [← List.take_append_drop n cs]
    rw [← List.getElem_cons_drop hn, List.getD_eq_getElem?_getD, List.getElem?_eq_getElem hn]
    rfl
  conv => lhs; rw [e]
  exact List.perm_middle
theorem getD_mem {cs : List Cl} {n : Nat} (hn : n < cs.length) (d : Cl) : cs.getD n d ∈ cs := by
  rw [List.getD_eq_getElem?_getD, List.getElem?_eq_getElem hn]
  exact List.getElem_mem hn
theorem mem_parts {p q : Cl} {t : Int} (h : q ∈ parts p t) : ∃ k : Nat, (k : Int) < t ∧ q = (p.1 + k * p.2, t * p.2) := by
  obtain ⟨k, hk, rfl⟩ := List.mem_map.mp h
  have := List.mem_range.mp hk
  exact ⟨k, by omega, rfl⟩
theorem ok_parts {p q : Cl} {t : Int} (hp : Ok p) (h : q ∈ parts p t) : Ok q := by
  obtain ⟨k, hk, rfl⟩ := mem_parts h
  obtain ⟨a, b, c⟩ := hp
  have h1 : 0 ≤ (k : Int) * p.2 := Int.mul_nonneg (by omega) (by omega)
  have h2 : ((k : Int) + 1) * p.2 ≤ t * p.2 := Int.mul_le_mul_of_nonneg_right (by omega) (by omega)
  rw [Int.add_mul] at h2
  refine ⟨?_, ?_, ?_⟩ <;> simp only <;> omega
theorem Part.split {cs : List Cl} (h : Part cs) {n : Nat} {t : Int} (hn : n < cs.length) (ht : 1 ≤ t) : Part (splitL cs n t) := by
  have hp := h.ok _ (getD_mem hn (0, 0))
  refine Part.perm ⟨fun q hq => ?_, fun x => ?_⟩ (split_perm cs n t)
  · rcases List.mem_append.mp hq with hq | hq
    · exact h.ok q ((cut_perm hn).mem_iff.mpr (List.mem_cons_of_mem _ hq))
    · exact ok_parts hp hq
  · rw [List.countP_append, cnt_parts hp ht]
    have c := h.cov x
    rw [(cut_perm hn).countP_eq, List.countP_cons] at c
    exact c
theorem split_len {cs : List Cl} {n : Nat} {t : Int} (hn : n < cs.length) : ((splitL cs n t).length : Int) = cs.length + t.toNat - 1 := by
  rw [(split_perm cs n t).length_eq, List.length_append, List.length_append, List.length_take, List.length_drop, parts, List.length_map, List.length_range]
  omega
theorem Part.splitSrt {cs : List Cl} (h : Part cs) {n : Nat} {t : Int} (hn : n < cs.length) (ht : 1 ≤ t) : Srt (splitL cs n t) := by
  have g : Part (cs.take n ++ cs.drop (n + 1) ++ parts (cs.getD n (0, 0)) t) := (h.split hn ht).perm (split_perm cs n t).symm
  exact g.srt
theorem split_le {cs : List Cl} {n : Nat} {t b : Int} (hn : n < cs.length) (hb : ∀ p ∈ cs, p.2 ≤ b) (h1 : ∀ p ∈ cs, 0 ≤ p.2) (h0 : 1 ≤ t) : ∀ p ∈ splitL cs n t, p.2 ≤ t * b := by
  intro q hq
  rcases List.mem_append.mp ((split_perm cs n t).mem_iff.mp hq) with hq | hq
  · have m : q ∈ cs := (cut_perm hn).mem_iff.mpr (List.mem_cons_of_mem _ hq)
    have a := hb q m
    have b0 : 0 ≤ b := Int.le_trans (h1 q m) a
    have := Int.mul_le_mul_of_nonneg_right h0 b0
    omega
  · obtain ⟨k, hk, rfl⟩ := mem_parts hq
    exact Int.mul_le_mul_of_nonneg_left (hb _ (getD_mem hn _)) (by omega)
/-- which classes are new -/
theorem Part.news {cs : List Cl} (h : Part cs) {n : Nat} {t : Int} (hn : n < cs.length) (ht : 2 ≤ t) : ((splitL cs n t).filter fun q => !decide (q ∈ cs)).Perm (parts (cs.getD n (0, 0)) t) := by
  refine ((split_perm cs n t).filter _).trans ?_
  rw [List.filter_append]
  have e1 : (cs.take n ++ cs.drop (n + 1)).filter (fun q => !decide (q ∈ cs)) = [] := by
    rw [List.filter_eq_nil_iff]
    intro q hq
    have : q ∈ cs := (cut_perm hn).mem_iff.mpr (List.mem_cons_of_mem _ hq)
    simpa using this
  have e2 : (parts (cs.getD n (0, 0)) t).filter (fun q => !decide (q ∈ cs)) = parts (cs.getD n (0, 0)) t := by
    rw [List.filter_eq_self]
    intro q hq
    have : q ∉ cs := fun hc => by
      obtain ⟨k, hk, e⟩ := mem_parts hq
      have hm := getD_mem hn (0, 0)
      have o := h.ok _ hm
      have u := h.uniq (x := q.1) hc hm (hit_iff.mpr (by rw [Int.sub_self]; exact Int.dvd_zero _)) (hit_iff.mpr (by rw [e]; show _ ∣ _ + _ - _; rw [Int.add_comm, Int.add_sub_cancel]; exact Int.dvd_mul_left _ _))
      rw [e] at u
      have u2 := congrArg Prod.snd u
      simp only at u2
      have o1 := o.1
      have := Int.mul_le_mul_of_nonneg_right ht (show 0 ≤ (cs.getD n (0, 0)).2 by omega)
      omega
    simpa using this
  rw [e1, e2, List.nil_append]
/-! ### covering from one round -/
theorem cov_of {cs : List Cl} {N : Int} (hN : 0 < N) (hd : ∀ p ∈ cs, p.2 ∣ N) (h : ∀ x : Int, 0 ≤ x → x < N → cs.countP (hit x) = 1) (x : Int) : cs.countP (hit x) = 1 := by
  have := h (x % N) (Int.emod_nonneg _ (by omega)) (Int.emod_lt_of_pos _ hN)
  rw [← this]
  refine List.countP_congr fun p hp => ?_
  obtain ⟨q, hq⟩ := hd p hp
  rw [hit_iff, hit_iff]
  have e : x - p.1 = (x % N - p.1) + p.2 * (q * (x / N)) := by
    have := Int.emod_add_mul_ediv x N
    rw [← Int.mul_assoc, ← hq]
    omega
  rw [e]
  exact ⟨fun z => (Int.dvd_add_left (Int.dvd_mul_right _ _)).mp z, fun z => Int.dvd_add z (Int.dvd_mul_right _ _)⟩
end My
namespace My
open V3
theorem apart_at {cs : List Cl} (h : cs.Pairwise fun p q => meetB p q = false) {i j : Int} (h0 : 0 ≤ i) (h1 : i < j) (h2 : j.toNat < cs.length) : meetB (cs.getD i.toNat (0, 0)) (cs.getD j.toNat (0, 0)) = false := by
  have := List.pairwise_iff_getElem.mp h i.toNat j.toNat (by omega) h2 (by omega)
  simpa [List.getD_eq_getElem?_getD, List.getElem?_eq_getElem h2, List.getElem?_eq_getElem (show i.toNat < cs.length by omega)] using this
theorem take_succ_of {α : Type} {xs : List α} {m : Nat} {x : α} (h : xs[m]? = some x) : xs.take (m + 1) = xs.take m ++ [x] := by
  rw [List.take_add_one, h]
  rfl
end My
namespace My
theorem filter_true {α : Type} (xs : List α) : xs.filter (fun _ => true) = xs := by simp
end My

/-! k67M: the script's draws, and how the law makes partings. -/
namespace My
open V3
def cellF (ds : List Int) (k : Int) : Int :=
  if k < ds.length then ds.getD k.toNat 0 else (ds.getD (k % ds.length).toNat 0 * 31 + ds.getD (7 * k % ds.length).toNat 0 * 17 + 101 * k) % 1000003
@[simp] theorem parts_len (p : Cl) (t : Int) : (parts p t).length = t.toNat := by simp [parts]
theorem split_le2 {cs : List Cl} {n : Nat} {t b : Int} (hn : n < cs.length) (hb : ∀ p ∈ cs, p.2 ≤ b) (h1 : t * (cs.getD n (0, 0)).2 ≤ b) : ∀ p ∈ splitL cs n t, p.2 ≤ b := by
  intro q hq
  rcases List.mem_append.mp ((split_perm cs n t).mem_iff.mp hq) with hq | hq
  · exact hb q ((cut_perm hn).mem_iff.mpr (List.mem_cons_of_mem _ hq))
  · obtain ⟨k, hk, rfl⟩ := mem_parts hq
    exact h1
theorem primes_in (c : Int) : 2 ≤ ([2, 3, 2, 5, 2, 3, 7] : List Int).getD (c % 7).toNat 0 ∧ ([2, 3, 2, 5, 2, 3, 7] : List Int).getD (c % 7).toNat 0 ≤ 7 := by
  have h0 := Int.emod_nonneg c (show (7 : Int) ≠ 0 by decide)
  have h1 := Int.emod_lt_of_pos c (show (0 : Int) < 7 by decide)
  have : ∀ n : Nat, n < 7 → 2 ≤ ([2, 3, 2, 5, 2, 3, 7] : List Int).getD n 0 ∧ ([2, 3, 2, 5, 2, 3, 7] : List Int).getD n 0 ≤ 7 := by decide
  exact this _ (by omega)
theorem one_part : Part [(0, 1)] := ⟨fun p hp => by
  cases List.mem_singleton.mp hp
  exact ⟨by decide, by decide, by decide⟩, fun x => by
  rw [List.countP_cons_of_pos (hit_iff.mpr (Int.one_dvd _))]
  rfl⟩
/-! the crooked one -/
def crkB (s : Int) : List Cl := [((0 + s) % 6, 6), ((1 + s) % 10, 10), ((2 + s) % 15, 15)]
def crkM (s : Int) (m : Nat) : List Cl := crkB s ++ ((List.range m).filter fun (d : Nat) => (crkB s).all fun p => !decide ((d : Int) % p.2 = p.1)).map fun (d : Nat) => ((d : Int), (30 : Int))
theorem crk_take (s : Int) (m : Nat) : (crkM s m).take 3 = crkB s := rfl
theorem crk_zero (s : Int) : crkM s 0 = crkB s := by simp [crkM]
theorem crk_succ (s : Int) (m : Nat) : crkM s (m + 1) = if ((crkB s).filter fun p => decide ((m : Int) % p.2 = p.1)) = [] then crkM s m ++ [((m : Int), 30)] else crkM s m := by
  have e : (((crkB s).filter fun p => decide ((m : Int) % p.2 = p.1)) = []) ↔ ((crkB s).all fun p => !decide ((m : Int) % p.2 = p.1)) = true := by
    rw [List.filter_eq_nil_iff, List.all_eq_true]
    simp
  unfold crkM
  rw [List.range_succ, List.filter_append, List.map_append]
  by_cases h : ((crkB s).all fun p => !decide ((m : Int) % p.2 = p.1)) = true
  · rw [if_pos (e.mpr h)]
    have e3 : [m].filter (fun (d : Nat) => (crkB s).all fun p => !decide ((d : Int) % p.2 = p.1)) = [m] := by show (match ((crkB s).all fun p => !decide ((m : Int) % p.2 = p.1)) with | true => _ | false => _) = _; rw [h]; rfl
    rw [e3]
    simp
  · rw [if_neg (fun z => h (e.mp z))]
    have e3 : [m].filter (fun (d : Nat) => (crkB s).all fun p => !decide ((d : Int) % p.2 = p.1)) = [] := by show (match ((crkB s).all fun p => !decide ((m : Int) % p.2 = p.1)) with | true => _ | false => _) = _; rw [eq_false_of_ne_true h]; rfl
    rw [e3]
    simp
theorem crk_all : ∀ n : Fin 30, ((crkM (n.val : Int) 30).all fun p => decide (1 ≤ p.2 ∧ 0 ≤ p.1 ∧ p.1 < p.2 ∧ p.2 ≤ 30 ∧ 30 % p.2 = 0)) = true ∧ ((List.range 30).all fun x => (crkM (n.val : Int) 30).countP (hit x) == 1) = true := by decide +kernel
theorem crk_len (s : Int) (m : Nat) : (crkM s m).length ≤ 3 + m := by
  unfold crkM
  rw [List.length_append, List.length_map]
  have := List.length_filter_le (fun (d : Nat) => (crkB s).all fun p => !decide ((d : Int) % p.2 = p.1)) (List.range m)
  rw [List.length_range] at this
  show 3 + _ ≤ _
  omega
theorem crk_part {s : Int} (h0 : 0 ≤ s) (h1 : s < 30) : Part (crkM s 30) ∧ ∀ p ∈ crkM s 30, p.2 ≤ 30 := by
  obtain ⟨a, b⟩ := crk_all ⟨s.toNat, by omega⟩
  have e : ((s.toNat : Nat) : Int) = s := by omega
  simp only [e] at a b
  rw [List.all_eq_true] at a b
  have a' : ∀ p ∈ crkM s 30, 1 ≤ p.2 ∧ 0 ≤ p.1 ∧ p.1 < p.2 ∧ p.2 ≤ 30 ∧ 30 % p.2 = 0 := fun p hp => of_decide_eq_true (a p hp)
  refine ⟨⟨fun p hp => ?_, cov_of (N := 30) (by decide) (fun p hp => Int.dvd_of_emod_eq_zero (a' p hp).2.2.2.2) fun x h0 h1 => ?_⟩, fun p hp => (a' p hp).2.2.2.1⟩
  · obtain ⟨x, y, z, _⟩ := a' p hp
    exact ⟨x, y, z⟩
  · have := b x.toNat (List.mem_range.mpr (by omega))
    have e2 : ((x.toNat : Nat) : Int) = x := by omega
    rw [e2] at this
    exact beq_iff_eq.mp this
/-! all alike, and the chain of halves -/
def aliF (n : Nat) : List Cl := (List.range n).map fun (k : Nat) => ((k : Int), (n : Int))
theorem ali_part {n : Nat} (h : 0 < n) : Part (aliF n) := ⟨fun p hp => by
  obtain ⟨k, hk, rfl⟩ := List.mem_map.mp hp
  have := List.mem_range.mp hk
  refine ⟨?_, ?_, ?_⟩ <;> simp only <;> omega, fun x => by
  rw [aliF, List.countP_map, ← block x n h]
  refine List.countP_congr fun k _ => ?_
  show hit x ((k : Int), (n : Int)) = true ↔ _
  rw [hit_iff, decide_eq_true_eq, ← Int.dvd_iff_emod_eq_zero]
  show (n : Int) ∣ x - k ↔ _
  rw [← Int.dvd_neg, Int.neg_sub]⟩
def chF (n : Nat) : List Cl := (List.range n).map fun (k : Nat) => (((2 ^ k : Nat) : Int) - 1, 2 * ((2 ^ k : Nat) : Int))
theorem ch_cov (x : Int) : ∀ n : Nat, (chF n).countP (hit x) + (if hit x (((2 ^ n : Nat) : Int) - 1, ((2 ^ n : Nat) : Int)) = true then 1 else 0) = 1
  | 0 => by
    rw [if_pos (hit_iff.mpr (Int.one_dvd _))]
    rfl
  | n + 1 => by
    have ih := ch_cov x n
    rw [chF, List.range_succ, List.map_append, List.countP_append]
    rw [chF] at ih
    have e : ((List.map (fun (k : Nat) => (((2 ^ k : Nat) : Int) - 1, 2 * ((2 ^ k : Nat) : Int))) [n]).countP (hit x)) = if hit x (((2 ^ n : Nat) : Int) - 1, 2 * ((2 ^ n : Nat) : Int)) = true then 1 else 0 := by
      rw [List.map_singleton, List.countP_singleton]
    rw [e]
    have hp : (0 : Int) < ((2 ^ n : Nat) : Int) := by have := Nat.two_pow_pos n; omega
    have e2 : ((2 ^ (n + 1) : Nat) : Int) = 2 * ((2 ^ n : Nat) : Int) := by rw [Nat.pow_succ]; omega
    rw [e2]
    generalize ((2 ^ n : Nat) : Int) = u at *
    have key : (if hit x (u - 1, 2 * u) = true then 1 else 0) + (if hit x (2 * u - 1, 2 * u) = true then 1 else 0) = if hit x (u - 1, u) = true then 1 else 0 := by
      by_cases h : hit x (u - 1, u) = true
      · rw [if_pos h]
        obtain ⟨q, hq⟩ := hit_iff.mp h
        have hq' : x - (u - 1) = u * q := hq
        rcases Int.emod_two_eq q with h2 | h2
        · have h3 : hit x (u - 1, 2 * u) = true := hit_iff.mpr ⟨q / 2, by
            show x - (u - 1) = 2 * u * (q / 2)
            rw [hq', Int.mul_comm 2, Int.mul_assoc]; congr 1; omega⟩
          have h4 : ¬ hit x (2 * u - 1, 2 * u) = true := fun z => by
            obtain ⟨r, hr⟩ := hit_iff.mp z
            have hr' : x - (2 * u - 1) = 2 * u * r := hr
            have : u * (q - 1) = u * (2 * r) := by rw [Int.mul_sub, ← hq', ← Int.mul_assoc, Int.mul_comm u 2, ← hr']; omega
            have := Int.eq_of_mul_eq_mul_left (show u ≠ 0 by omega) this
            omega
          rw [if_pos h3, if_neg h4]
        · have h3 : hit x (2 * u - 1, 2 * u) = true := hit_iff.mpr ⟨q / 2, by
            show x - (2 * u - 1) = 2 * u * (q / 2)
            have : q = 2 * (q / 2) + 1 := by omega
            have e5 : u * q = u * (2 * (q / 2)) + u := by conv => lhs; rw [this, Int.mul_add, Int.mul_one]
            have e6 : 2 * u * (q / 2) = u * (2 * (q / 2)) := by rw [Int.mul_comm 2, Int.mul_assoc]
            omega⟩
          have h4 : ¬ hit x (u - 1, 2 * u) = true := fun z => by
            obtain ⟨r, hr⟩ := hit_iff.mp z
            have hr' : x - (u - 1) = 2 * u * r := hr
            have : u * q = u * (2 * r) := by rw [← hq', ← Int.mul_assoc, Int.mul_comm u 2, ← hr']
            have := Int.eq_of_mul_eq_mul_left (show u ≠ 0 by omega) this
            omega
          rw [if_pos h3, if_neg h4]
      · rw [if_neg h]
        have h3 : ¬ hit x (u - 1, 2 * u) = true := fun z => h (hit_iff.mpr (Int.dvd_trans (Int.dvd_mul_left _ _) (hit_iff.mp z)))
        have h4 : ¬ hit x (2 * u - 1, 2 * u) = true := fun z => h (hit_iff.mpr (by
          have d : u ∣ x - (2 * u - 1) := Int.dvd_trans (Int.dvd_mul_left _ _) (hit_iff.mp z)
          show u ∣ x - (u - 1)
          have : x - (u - 1) = (x - (2 * u - 1)) + u := by omega
          rw [this]
          exact Int.dvd_add d (Int.dvd_refl _)))
        rw [if_neg h3, if_neg h4]
    omega
theorem ch_part (n : Nat) : Part (chF n ++ [(((2 ^ n : Nat) : Int) - 1, ((2 ^ n : Nat) : Int))]) := ⟨fun p hp => by
  rcases List.mem_append.mp hp with hp | hp
  · obtain ⟨k, hk, rfl⟩ := List.mem_map.mp hp
    have := Nat.two_pow_pos k
    refine ⟨?_, ?_, ?_⟩ <;> simp only <;> omega
  · cases List.mem_singleton.mp hp
    have := Nat.two_pow_pos n
    refine ⟨?_, ?_, ?_⟩ <;> simp only <;> omega, fun x => by
  rw [List.countP_append, ← ch_cov x n, List.countP_singleton]⟩
theorem ch_le {n : Nat} {b : Int} (h : ((2 ^ n : Nat) : Int) ≤ b) : ∀ p ∈ chF n ++ [(((2 ^ n : Nat) : Int) - 1, ((2 ^ n : Nat) : Int))], p.2 ≤ b := by
  intro p hp
  rcases List.mem_append.mp hp with hp | hp
  · obtain ⟨k, hk, rfl⟩ := List.mem_map.mp hp
    have := List.mem_range.mp hk
    have h2 : 2 ^ (k + 1) ≤ 2 ^ n := Nat.pow_le_pow_right (by decide) this
    rw [Nat.pow_succ] at h2
    simp only
    omega
  · cases List.mem_singleton.mp hp
    exact h
/-! the greedy one -/
structure Gr (n : Nat) (ow : List (Option Int)) (cs : List Cl) (day : Nat) : Prop where
  len : ow.length = n
  ok : ∀ p ∈ cs, Ok p ∧ p.2 ∣ (n : Int)
  cnt : ∀ x : Nat, x < n → cs.countP (hit x) = if (ow.getD x none).isSome = true then 1 else 0
  done : ∀ x : Nat, x < day → x < n → (ow.getD x none).isSome = true
  size : cs.length ≤ day
theorem Gr.init (n : Nat) : Gr n (List.replicate n none) [] 0 := by
  refine ⟨?_, ?_, ?_, ?_, ?_⟩
  · simp
  · intro p h
    cases h
  · intro x hx
    simp [List.getD_eq_getElem?_getD, List.getElem?_replicate, hx]
  · intro x h
    exact absurd h (Nat.not_lt_zero _)
  · exact Nat.le_refl _
theorem Gr.skip {n day : Nat} {ow : List (Option Int)} {cs : List Cl} (h : Gr n ow cs day) (hs : (ow.getD day none).isSome = true) : Gr n ow cs (day + 1) := ⟨h.len, h.ok, h.cnt, fun x hx hn => by
  by_cases e : x = day
  · subst e; exact hs
  · exact h.done x (by omega) hn, by have := h.size; omega⟩
theorem Gr.take {n day : Nat} {ow ow' : List (Option Int)} {cs : List Cl} (h : Gr n ow cs day) (hd : day < n) {q : Int} (hq : (day : Int) < q) (hqn : q ∣ (n : Int)) (hf : ∀ k : Nat, (day : Int) + k * q < n → (ow.getD ((day : Int) + k * q).toNat none).isSome = false)
    (hl : ow'.length = n) (ho : ∀ x : Nat, (ow'.getD x none).isSome = true ↔ (ow.getD x none).isSome = true ∨ x < n ∧ ∃ k : Nat, (x : Int) = day + k * q) : Gr n ow' (cs ++ [((day : Int), q)]) (day + 1) := by
  have hit' : ∀ x : Nat, hit x ((day : Int), q) = true ↔ ∃ k : Nat, (x : Int) = day + k * q := fun x => by
    rw [hit_iff]
    constructor
    · rintro ⟨k, hk⟩
      have hk' : (x : Int) - day = q * k := hk
      have k0 : 0 ≤ k := by
        rcases Int.lt_or_le k 0 with z | z
        · have : q * k ≤ q * (-1) := Int.mul_le_mul_of_nonneg_left (by omega) (by omega)
          omega
        · exact z
      refine ⟨k.toNat, ?_⟩
      rw [show ((k.toNat : Nat) : Int) = k by omega, Int.mul_comm]
      omega
    · rintro ⟨k, hk⟩
      exact ⟨k, by show (x : Int) - day = q * k; rw [hk, Int.mul_comm]; omega⟩
  refine ⟨hl, fun p hp => ?_, fun x hx => ?_, fun x hx hn => ?_, ?_⟩
  · rcases List.mem_append.mp hp with hp | hp
    · exact h.ok p hp
    · cases List.mem_singleton.mp hp
      exact ⟨⟨by show (1 : Int) ≤ q; omega, by show (0 : Int) ≤ day; omega, hq⟩, hqn⟩
  · rw [List.countP_append, h.cnt x hx, List.countP_singleton]
    by_cases e : hit x ((day : Int), q) = true
    · obtain ⟨k, hk⟩ := (hit' x).mp e
      have hn := hf k (by omega)
      rw [show ((day : Int) + k * q).toNat = x by omega] at hn
      rw [if_pos e, if_pos ((ho x).mpr (.inr ⟨hx, k, hk⟩)), if_neg (by rw [hn]; decide)]
    · rw [if_neg e, Nat.add_zero]
      by_cases g : (ow.getD x none).isSome = true
      · rw [if_pos g, if_pos ((ho x).mpr (.inl g))]
      · rw [if_neg g, if_neg fun z => by
          rcases (ho x).mp z with z | z
          · exact g z
          · exact e ((hit' x).mpr z.2)]
  · by_cases e : x = day
    · subst e
      exact (ho x).mpr (.inr ⟨hn, 0, by simp⟩)
    · exact (ho x).mpr (.inl (h.done x (by omega) hn))
  · rw [List.length_append]
    have := h.size
    show _ + 1 ≤ _
    omega
theorem Gr.part {n : Nat} {ow : List (Option Int)} {cs : List Cl} (h : Gr n ow cs n) (hn : 0 < n) : Part cs := ⟨fun p hp => (h.ok p hp).1, cov_of (N := n) (by omega) (fun p hp => (h.ok p hp).2) fun x h0 h1 => by
  have := h.cnt x.toNat (by omega)
  rw [if_pos (h.done x.toNat (by omega) (by omega))] at this
  rw [show ((x.toNat : Nat) : Int) = x by omega] at this
  exact this⟩
theorem Gr.le {n : Nat} {ow : List (Option Int)} {cs : List Cl} {day : Nat} (h : Gr n ow cs day) (hn : 0 < n) : ∀ p ∈ cs, p.2 ≤ n := fun p hp => Int.le_of_dvd (by omega) (h.ok p hp).2
theorem Part.sorted {cs : List Cl} (h : Part cs) : Part (cs.mergeSort leP) := h.perm (List.mergeSort_perm _ _)
theorem sorted_all {cs : List Cl} {P : Cl → Prop} (h : ∀ p ∈ cs, P p) : ∀ p ∈ cs.mergeSort leP, P p := fun p hp => h p ((List.mergeSort_perm _ _).mem_iff.mp hp)
end My
namespace My
theorem crk_pos {s : Int} {m : Nat} {cs : List Cl} {p : Cl} (hk : cs = crkM s m) (h : p ∈ cs.take (Int.toNat 3)) : 0 < p.2 := by
  rw [hk, show Int.toNat 3 = 3 from rfl, crk_take] at h
  have : ∀ q ∈ crkB s, 0 < q.2 := by simp [crkB]
  exact this p h
end My
namespace My
def GoodP (n day : Int) (ow : List (Option Int)) (q : Int) : Prop := day < q ∧ q ∣ n ∧ ∀ k : Nat, day + k * q < n → (ow.getD (day + k * q).toNat none).isSome = false
end My
namespace My
open V3
theorem getD_memA {α : Type} {xs : List α} {n : Nat} (hn : n < xs.length) (d : α) : xs.getD n d ∈ xs := by
  rw [List.getD_eq_getElem?_getD, List.getElem?_eq_getElem hn]
  exact List.getElem_mem hn
theorem some_of {z : Option Int} (h : isNone (eO eI z) = false) : z.isSome = true := by
  cases z with
  | none => cases h
  | some a => rfl
theorem none_of {z : Option Int} (h : isNone (eO eI z) = true) : z.isSome = false := by
  cases z with
  | none => rfl
  | some a => cases h
theorem free_of {ow : List (Option Int)} {day n q : Int} (h : ((((List.range (rgN day n q)).map fun k => day + ((k : Nat) : Int) * q).filter fun xa => !isNone (eO eI (ow.getD xa.toNat none))).map fun xa => xa) = []) (hq : 0 < q) :
    ∀ k : Nat, day + k * q < n → (ow.getD (day + k * q).toNat none).isSome = false := fun k hk => by
  rw [List.map_id', List.filter_eq_nil_iff] at h
  have := h (day + k * q) (List.mem_map.mpr ⟨k, List.mem_range.mpr ((rgN_lt hq).mpr hk), rfl⟩)
  simp only [Bool.not_eq_true', Bool.not_eq_false] at this
  exact none_of this
theorem free_self {ow : List (Option Int)} {day n : Int} (h0 : 0 ≤ day ∧ day < n) (h : isNone (eO eI (ow.getD day.toNat none)) = true) :
    ((((List.range (rgN day n n)).map fun k => day + ((k : Nat) : Int) * n).filter fun xa => !isNone (eO eI (ow.getD xa.toNat none))).map fun xa => xa) = [] := by
  rw [List.map_id', List.filter_eq_nil_iff]
  intro x hx
  obtain ⟨k, hk, rfl⟩ := List.mem_map.mp hx
  have h1 := (rgN_lt (by omega)).mp (List.mem_range.mp hk)
  have hk0 : k = 0 := by
    rcases Nat.eq_zero_or_pos k with e | e
    · exact e
    · have := Int.mul_le_mul_of_nonneg_right (show (1 : Int) ≤ k by omega) (show 0 ≤ n by omega)
      omega
  subst hk0
  simp only [Int.ofNat_zero, Int.zero_mul, Int.add_zero]
  rw [h]
  decide
theorem getD_set_same {α : Type} {xs : List α} {n : Nat} {v d : α} (h : n < xs.length) : (xs.set n v).getD n d = v := by
  simp [List.getD_eq_getElem?_getD, h]
theorem getD_set_ne {α : Type} {xs : List α} {n m : Nat} {v d : α} (h : n ≠ m) : (xs.set n v).getD m d = xs.getD m d := by
  simp [List.getD_eq_getElem?_getD, h]
end My
namespace My
theorem rounds_in (c : Int) : 1 ≤ ([6, 8, 12, 18, 24, 30] : List Int).getD (c % 6).toNat 0 ∧ ([6, 8, 12, 18, 24, 30] : List Int).getD (c % 6).toNat 0 ≤ 100 := by
  have h0 := Int.emod_nonneg c (show (6 : Int) ≠ 0 by decide)
  have h1 := Int.emod_lt_of_pos c (show (0 : Int) < 6 by decide)
  have : ∀ n : Nat, n < 6 → 1 ≤ ([6, 8, 12, 18, 24, 30] : List Int).getD n 0 ∧ ([6, 8, 12, 18, 24, 30] : List Int).getD n 0 ≤ 100 := by decide
  exact this _ (by omega)
theorem parts_bad {o d t : Int} {new : List Cl} (h : new.Perm (parts (o, d) t)) (hc : Ok (o, d)) : (new.filter fun xa => !decide (xa.2 = t * d) || !decide (xa.1 % d = o)) = [] := by
  rw [List.filter_eq_nil_iff]
  intro q hq
  obtain ⟨k, hk, rfl⟩ := mem_parts (h.mem_iff.mp hq)
  obtain ⟨a, b, c⟩ := hc
  have e : (o + (k : Int) * d) % d = o := by rw [Int.add_mul_emod_self_right]; exact Int.emod_eq_of_lt b c
  simp [e]
theorem chF_succ (n : Nat) : chF (n + 1) = chF n ++ [(((2 ^ n : Nat) : Int) - 1, 2 * ((2 ^ n : Nat) : Int))] := by
  rw [chF, List.range_succ, List.map_append]
  rfl
theorem chF_len (n : Nat) : (chF n).length = n := by simp [chF]
end My

/-! k66M: how often the greatest period stands in a parting. -/
namespace My
open V3
/-! ### the least factor -/
theorem lf_ex {n : Int} (h : 2 ≤ n) : ∃ k : Nat, 2 ≤ k ∧ (k : Int) ∣ n := ⟨n.toNat, by omega, by rw [show ((n.toNat : Nat) : Int) = n by omega]; exact Int.dvd_refl _⟩
open Classical in
noncomputable def lfac (n : Int) : Int := if h : 2 ≤ n then ((Classical.choose (least (lf_ex h)) : Nat) : Int) else n
theorem lfac_ge {n : Int} (h : 2 ≤ n) : 2 ≤ lfac n ∧ lfac n ∣ n ∧ ∀ k : Nat, 2 ≤ k → (k : Int) ∣ n → lfac n ≤ k := by
  have s := Classical.choose_spec (least (lf_ex h))
  rw [lfac, dif_pos h]
  refine ⟨by omega, s.1.2, fun k h1 h2 => ?_⟩
  rcases Nat.lt_or_ge k (Classical.choose (least (lf_ex h))) with z | z
  · exact absurd ⟨h1, h2⟩ (s.2 k z)
  · omega
theorem lfac_le {n : Int} (h : 1 ≤ n) : lfac n ≤ n := by
  by_cases h2 : 2 ≤ n
  · have := (lfac_ge h2).2.2 n.toNat (by omega) (by rw [show ((n.toNat : Nat) : Int) = n by omega]; exact Int.dvd_refl _)
    omega
  · rw [lfac, dif_neg h2]
    exact Int.le_refl _
theorem lfac_is {n f : Int} (h : 2 ≤ n) (h1 : 2 ≤ f) (h2 : f ∣ n) (h3 : ∀ k : Int, 2 ≤ k → k < f → ¬ k ∣ n) : f = lfac n := by
  obtain ⟨a, b, c⟩ := lfac_ge h
  have := c f.toNat (by omega) (by rw [show ((f.toNat : Nat) : Int) = f by omega]; exact h2)
  rcases Int.lt_or_le (lfac n) f with z | z
  · exact absurd b (h3 _ a z)
  · omega
theorem lfac_small {n : Int} (h : ¬ 2 ≤ n) : n = lfac n := by rw [lfac, dif_neg h]
theorem lfac_even {n : Int} (h : 2 ≤ n) (h2 : n % 2 = 0) : lfac n = 2 := (lfac_is h (by decide) (Int.dvd_of_emod_eq_zero h2) fun k a b => by omega).symm
/-! ### the greatest period -/
def maxP (cs : List Cl) : Int := (cs.map (·.2)).foldr max 0
def cntP (cs : List Cl) : Nat := (cs.map (·.2)).count (maxP cs)
theorem max_ge : ∀ {l : List Int} {y : Int}, y ∈ l → y ≤ l.foldr max 0
  | a :: l, y, h => by
    rw [List.foldr_cons]
    rcases List.mem_cons.mp h with rfl | h
    · omega
    · have := max_ge h
      omega
theorem max_mem : ∀ {l : List Int}, l ≠ [] → (∀ y ∈ l, 0 < y) → l.foldr max 0 ∈ l
  | [a], _, h => by
    have := h a List.mem_cons_self
    simp only [List.foldr_cons, List.foldr_nil, List.mem_singleton]
    omega
  | a :: b :: l, _, h => by
    have ih := max_mem (l := b :: l) (by simp) fun y hy => h y (List.mem_cons_of_mem _ hy)
    rw [List.foldr_cons]
    rcases Int.le_total a ((b :: l).foldr max 0) with z | z
    · rw [show max a ((b :: l).foldr max 0) = (b :: l).foldr max 0 by omega]
      exact List.mem_cons_of_mem _ ih
    · rw [show max a ((b :: l).foldr max 0) = a by omega]
      exact List.mem_cons_self
theorem maxP_ge {cs : List Cl} {p : Cl} (h : p ∈ cs) : p.2 ≤ maxP cs := max_ge (List.mem_map.mpr ⟨p, h, rfl⟩)
theorem maxP_mem {cs : List Cl} (h : cs ≠ []) (hp : ∀ p ∈ cs, 1 ≤ p.2) : ∃ p ∈ cs, p.2 = maxP cs := by
  have := max_mem (l := cs.map (·.2)) (by simpa using h) fun y hy => by
    obtain ⟨p, hm, rfl⟩ := List.mem_map.mp hy
    have := hp p hm
    omega
  obtain ⟨p, hm, e⟩ := List.mem_map.mp this
  exact ⟨p, hm, e⟩
theorem maxP_is {cs : List Cl} {m : Int} (h : ∃ p ∈ cs, p.2 = m) (hm : ∀ p ∈ cs, p.2 ≤ m) (hp : ∀ p ∈ cs, 1 ≤ p.2) : maxP cs = m := by
  obtain ⟨p, h1, h2⟩ := h
  obtain ⟨q, h3, h4⟩ := maxP_mem (cs := cs) (fun e => by rw [e] at h1; cases h1) hp
  have := maxP_ge h1
  have := hm q h3
  omega
theorem cntP_eq (cs : List Cl) : cntP cs = cs.countP fun p => decide (p.2 = maxP cs) := by
  rw [cntP, List.count, List.countP_map]
  refine List.countP_congr fun p _ => ?_
  simp
theorem maxP_perm {cs ds : List Cl} (h : cs.Perm ds) (hp : ∀ p ∈ cs, 1 ≤ p.2) (hn : cs ≠ []) : maxP ds = maxP cs := by
  obtain ⟨p, h1, h2⟩ := maxP_mem hn hp
  exact maxP_is ⟨p, h.mem_iff.mp h1, h2⟩ (fun q hq => maxP_ge (h.mem_iff.mpr hq)) fun q hq => hp q (h.mem_iff.mpr hq)
theorem cntP_perm {cs ds : List Cl} (h : cs.Perm ds) (hp : ∀ p ∈ cs, 1 ≤ p.2) (hn : cs ≠ []) : cntP ds = cntP cs := by
  rw [cntP_eq, cntP_eq, maxP_perm h hp hn, h.countP_eq]
def Big (cs : List Cl) : Prop := cs.length = 1 ∨ lfac (maxP cs) ≤ cntP cs
theorem Big.perm {cs ds : List Cl} (b : Big cs) (h : cs.Perm ds) (hp : ∀ p ∈ cs, 1 ≤ p.2) (hn : cs ≠ []) : Big ds := by
  rcases b with b | b
  · exact .inl (by rw [← h.length_eq, b])
  · exact .inr (by rw [maxP_perm h hp hn, cntP_perm h hp hn]; exact b)
theorem Big.split {cs : List Cl} (b : Big cs) (h : Part cs) {n : Nat} {t : Int} (hn : n < cs.length) (ht : 2 ≤ t) : Big (splitL cs n t) := by
  have hP := h.split hn (show 1 ≤ t by omega)
  have h1 : ∀ p ∈ cs, 1 ≤ p.2 := fun p hp => (h.ok p hp).1
  have h1' : ∀ p ∈ splitL cs n t, 1 ≤ p.2 := fun p hp => (hP.ok p hp).1
  have pm := split_perm cs n t
  have hg := getD_mem hn (0, 0)
  have o := h1 _ hg
  right
  generalize hp : cs.getD n (0, 0) = p at *
  have inP : ∀ k : Nat, (k : Int) < t → (p.1 + k * p.2, t * p.2) ∈ splitL cs n t := fun k hk => pm.mem_iff.mpr (List.mem_append_right _ (List.mem_map.mpr ⟨k, List.mem_range.mpr (by omega), rfl⟩))
  have hge : t * p.2 ≤ maxP (splitL cs n t) := maxP_ge (inP 0 (by omega))
  have h2p : 2 * p.2 ≤ t * p.2 := Int.mul_le_mul_of_nonneg_right ht (by omega)
  rw [cntP_eq, pm.countP_eq, List.countP_append]
  rcases Int.lt_or_le (t * p.2) (maxP (splitL cs n t)) with z | z
  · -- the greatest is an old one
    have e : maxP (splitL cs n t) = maxP cs := by
      obtain ⟨q, hq, eq⟩ := maxP_mem hP.ne h1'
      have hqr : q ∈ cs.take n ++ cs.drop (n + 1) := by
        rcases List.mem_append.mp (pm.mem_iff.mp hq) with a | a
        · exact a
        · obtain ⟨k, hk, rfl⟩ := mem_parts a
          simp only at eq
          omega
      have hqc : q ∈ cs := (cut_perm hn).mem_iff.mpr (List.mem_cons_of_mem _ hqr)
      refine (maxP_is ⟨q, hqc, eq⟩ (fun r hr => ?_) h1).symm
      rcases List.mem_cons.mp ((cut_perm hn).mem_iff.mp hr) with a | a
      · rw [a, hp]; omega
      · exact maxP_ge (pm.mem_iff.mpr (List.mem_append_left _ a))
    have hr : cntP cs = (cs.take n ++ cs.drop (n + 1)).countP fun p => decide (p.2 = maxP (splitL cs n t)) := by
      rw [cntP_eq, ← e, (cut_perm hn).countP_eq, hp, List.countP_cons_of_neg]
      simp only [decide_eq_true_eq]
      omega
    rcases b with b | b
    · exfalso
      have e0 : cs.take n ++ cs.drop (n + 1) = [] := by
        have := (cut_perm hn).length_eq
        rw [b, List.length_cons] at this
        exact List.eq_nil_of_length_eq_zero (by omega)
      obtain ⟨q, hq, eq⟩ := maxP_mem hP.ne h1'
      have a := pm.mem_iff.mp hq
      rw [e0, List.nil_append] at a
      obtain ⟨k, hk, rfl⟩ := mem_parts a
      simp only at eq
      omega
    · rw [← hr, e]
      omega
  · have e : maxP (splitL cs n t) = t * p.2 := by omega
    have l1 : lfac (t * p.2) ≤ t := by
      have := (lfac_ge (show 2 ≤ t * p.2 by omega)).2.2 t.toNat (by omega) (by rw [show ((t.toNat : Nat) : Int) = t by omega]; exact Int.dvd_mul_right _ _)
      omega
    have c1 : (parts p t).countP (fun q => decide (q.2 = maxP (splitL cs n t))) = t.toNat := by
      rw [List.countP_eq_length.mpr fun q hq => ?_, parts_len]
      obtain ⟨k, hk, rfl⟩ := mem_parts hq
      simp only [decide_eq_true_eq]
      omega
    rw [c1, e]
    omega
end My

/-! k66N: partings of small rounds keep the rule; lists that leave days. -/
namespace My
open V3
/-! ### differences -/
def del : List Int → (Int → Int) → Int → Int
  | [], f, x => f x
  | s :: ss, f, x => del ss f x - del ss f (x + s)
theorem del_shift (s : Int) : ∀ (ss : List Int) (f : Int → Int) (x : Int), del ss f (x + s) = del ss (fun y => f (y + s)) x
  | [], _, _ => rfl
  | t :: ss, f, x => by
    show del ss f (x + s) - del ss f (x + s + t) = del ss _ x - del ss _ (x + t)
    rw [show x + s + t = x + t + s by omega, del_shift s ss f x, del_shift s ss f (x + t)]
theorem del_per : ∀ (ss : List Int) (f : Int → Int) (s : Int), s ∈ ss → (∀ x, f (x + s) = f x) → ∀ x, del ss f x = 0
  | t :: ss, f, s, hs, hf, x => by
    show del ss f x - del ss f (x + t) = 0
    rcases List.mem_cons.mp hs with rfl | hs
    · rw [del_shift, show (fun y => f (y + s)) = f from funext hf]
      omega
    · rw [del_per ss f s hs hf, del_per ss f s hs hf]
      rfl
theorem del_add (f g : Int → Int) : ∀ (ss : List Int) (x : Int), del ss (fun y => f y + g y) x = del ss f x + del ss g x
  | [], _ => rfl
  | t :: ss, x => by
    show del ss _ x - del ss _ (x + t) = (del ss f x - del ss f (x + t)) + (del ss g x - del ss g (x + t))
    rw [del_add f g ss x, del_add f g ss (x + t)]
    omega
theorem del_nil : ∀ (ss : List Int) (x : Int), del ss (fun _ => 0) x = 0
  | [], _ => rfl
  | t :: ss, x => by
    show del ss _ x - del ss _ (x + t) = 0
    rw [del_nil ss x, del_nil ss (x + t)]
    rfl
def hitI (p : Cl) (x : Int) : Int := if hit x p = true then 1 else 0
theorem sum_hit (cs : List Cl) (x : Int) : ((cs.countP (hit x) : Nat) : Int) = (cs.map fun p => hitI p x).sum := by
  induction cs with
  | nil => rfl
  | cons p cs ih =>
    rw [List.countP_cons, List.map_cons, List.sum_cons, ← ih, hitI]
    split <;> omega
theorem del_sum (ss : List Int) (x : Int) : ∀ cs : List Cl, del ss (fun y => (cs.map fun p => hitI p y).sum) x = (cs.map fun p => del ss (hitI p) x).sum
  | [] => del_nil ss x
  | p :: cs => by
    have := del_add (hitI p) (fun y => (cs.map fun p => hitI p y).sum) ss x
    rw [List.map_cons, List.sum_cons, ← del_sum ss x cs, ← this]
    rfl
theorem hitI_per {p : Cl} {s : Int} (h : p.2 ∣ s) (x : Int) : hitI p (x + s) = hitI p x := by
  unfold hitI
  have e : hit (x + s) p = hit x p := by
    rw [Bool.eq_iff_iff, hit_iff, hit_iff, show x + s - p.1 = (x - p.1) + s by omega]
    exact ⟨fun z => (Int.dvd_add_left h).mp z, fun z => Int.dvd_add z h⟩
  rw [e]
def ker (ss : List Int) (M d : Int) : Int := del ss (fun y => if y % M = 0 then 1 else 0) d
theorem del_hit (ss : List Int) (p : Cl) (x : Int) : del ss (hitI p) x = ker ss p.2 (x - p.1) := by
  unfold ker
  have h1 : hitI p = fun y => (fun z => if z % p.2 = 0 then (1 : Int) else 0) (y + -p.1) := by
    funext y
    show hitI p y = if (y + -p.1) % p.2 = 0 then 1 else 0
    simp only [hitI, hit, decide_eq_true_eq, Int.sub_eq_add_neg]
  conv => lhs; rw [h1]
  rw [← del_shift (-p.1) ss (fun z => if z % p.2 = 0 then (1 : Int) else 0) x, show x + -p.1 = x - p.1 by omega]
/-- the classes of the greatest period balance one another -/
theorem Part.balance {cs : List Cl} (h : Part cs) {M : Int} {ss : List Int} (hs : ss ≠ []) (hk : ∀ p ∈ cs, p.2 ≠ M → ∃ s ∈ ss, p.2 ∣ s) (x : Int) : (((cs.filter fun p => decide (p.2 = M)).map fun p => ker ss M (x - p.1)).sum) = 0 := by
  have e1 : del ss (fun y => (cs.map fun p => hitI p y).sum) x = 0 := by
    have : (fun y => (cs.map fun p => hitI p y).sum) = fun _ : Int => (1 : Int) := funext fun y => by rw [← sum_hit, h.cov y]; rfl
    rw [this]
    obtain ⟨s, hs'⟩ := List.exists_mem_of_ne_nil ss hs
    exact del_per ss _ s hs' (fun _ => rfl) x
  rw [del_sum] at e1
  rw [← e1]
  clear e1
  have : ∀ l : List Cl, (∀ p ∈ l, p.2 ≠ M → ∃ s ∈ ss, p.2 ∣ s) → (((l.filter fun p => decide (p.2 = M)).map fun p => ker ss M (x - p.1)).sum) = (l.map fun p => del ss (hitI p) x).sum := by
    intro l
    induction l with
    | nil => intro _; rfl
    | cons p l ih =>
      intro hl
      have ih' := ih fun q hq => hl q (List.mem_cons_of_mem _ hq)
      rw [List.map_cons, List.sum_cons]
      by_cases e : p.2 = M
      · rw [List.filter_cons_of_pos (by simpa using e), List.map_cons, List.sum_cons, ih', del_hit, e]
      · obtain ⟨s, h1, h2⟩ := hl p List.mem_cons_self e
        rw [List.filter_cons_of_neg (by simpa using e), ih', del_per ss _ s h1 (hitI_per h2)]
        omega
  exact this cs hk
/-! ### the small rounds -/
def valq (q n : Nat) : Nat := (([1, 2, 3, 4, 5] : List Nat).filter fun k => n % q ^ k == 0).length
def ssF (n M : Nat) : List Int := (([2, 3, 5] : List Nat).filter fun q => M % q == 0).map fun q => ((n / q ^ valq q n * q ^ (valq q M - 1) : Nat) : Int)
def smallR : List Nat := [4, 6, 8, 12, 18, 24, 30]
def chk (n M : Nat) : Bool := !((ssF n M).isEmpty) && ((List.range M).all fun d => d == 0 || n % d != 0 || (ssF n M).any fun s => s % (d : Int) == 0) && (ker (ssF n M) M 0 == 1) &&
  (M % 2 == 0 || M == 5 || ((List.range M).all fun d => !(ker (ssF n M) M (d : Int) == -1 && ker (ssF n M) M (-(d : Int)) == -1)))
theorem chk_all : (smallR.all fun n => (List.range (n + 1)).all fun M => M < 2 || n % M != 0 || chk n M) = true := by decide +kernel
theorem ker_mod (ss : List Int) {M : Int} (d k : Int) : ker ss M (d + M * k) = ker ss M d := by
  unfold ker
  rw [del_shift]
  congr 1
  funext y
  rw [Int.add_mul_emod_self_left]
theorem odd_lf {M : Nat} (h : M ∈ ([3, 9, 15] : List Nat)) : lfac (M : Int) = 3 := by
  have : M = 3 ∨ M = 9 ∨ M = 15 := by simpa using h
  refine (lfac_is (by omega) (by decide) (by omega) fun k a b => by
    have : k = 2 := by omega
    subst this
    omega).symm
theorem five_lf : lfac 5 = 5 := (lfac_is (by decide) (by decide) (Int.dvd_refl _) fun k a b => by
    have : k = 2 ∨ k = 3 ∨ k = 4 := by omega
    rcases this with rfl | rfl | rfl <;> decide).symm
theorem div_small : (smallR.all fun n => (List.range (n + 1)).all fun M => M < 2 || n % M != 0 || M % 2 == 0 || M == 5 || ([3, 9, 15] : List Nat).contains M) = true := by decide +kernel
theorem Part.five {cs : List Cl} (h : Part cs) (hm : maxP cs = 5) (hd : ∀ p ∈ cs, p.2 ≠ 5 → p.2 ∣ 6) : 5 ≤ cntP cs := by
  rw [cntP_eq, hm, List.countP_eq_length_filter]
  generalize hB : cs.filter (fun p => decide (p.2 = 5)) = B
  have bB : ∀ p ∈ B, p ∈ cs ∧ p.2 = 5 := fun p hp => by
    rw [← hB] at hp
    have := List.mem_filter.mp hp
    exact ⟨this.1, by simpa using this.2⟩
  -- how often B hits a day
  have per : ∀ x : Int, B.countP (hit (x + 6)) = B.countP (hit x) := fun x => by
    have b := h.balance (M := 5) (ss := [6]) (by simp) (fun p hp e => ⟨6, by simp, hd p hp e⟩) x
    rw [hB] at b
    have e : (B.map fun p => ker [6] 5 (x - p.1)) = B.map fun p => hitI p x - hitI p (x + 6) := List.map_congr_left fun p hp => by
      rw [← (bB p hp).2, ← del_hit]
      rfl
    rw [e] at b
    have s1 := sum_hit B x
    have s2 := sum_hit B (x + 6)
    have : ∀ l : List Cl, (l.map fun p => hitI p x - hitI p (x + 6)).sum = (l.map fun p => hitI p x).sum - (l.map fun p => hitI p (x + 6)).sum := by
      intro l
      induction l with
      | nil => rfl
      | cons p l ih => simp only [List.map_cons, List.sum_cons, ih]; omega
    rw [this] at b
    omega
  have per5 : ∀ x k : Int, B.countP (hit (x + 5 * k)) = B.countP (hit x) := fun x k => List.countP_congr fun p hp => by
    have := hitI_per (p := p) (s := 5 * k) (by rw [(bB p hp).2]; exact Int.dvd_mul_right _ _) x
    unfold hitI at this
    by_cases h1 : hit (x + 5 * k) p = true <;> by_cases h2 : hit x p = true <;> simp [h1, h2] at this ⊢
  have one : ∀ x : Int, B.countP (hit (x + 1)) = B.countP (hit x) := fun x => by
    have a := per x
    have b := per5 (x + 1) 1
    rw [show x + 1 + 5 * 1 = x + 6 by omega] at b
    omega
  have all : ∀ (x : Int) (k : Nat), B.countP (hit (x + k)) = B.countP (hit x) := fun x k => by
    induction k with
    | zero => simp
    | succ k ih => rw [← ih, ← one (x + k)]; congr 2; omega
  obtain ⟨p, hp, e⟩ := maxP_mem h.ne fun p hp => (h.ok p hp).1
  rw [hm] at e
  have hpB : p ∈ B := by rw [← hB]; exact List.mem_filter.mpr ⟨hp, by simpa using e⟩
  have pos : 1 ≤ B.countP (hit p.1) := List.countP_pos_iff.mpr ⟨p, hpB, hit_iff.mpr (by rw [Int.sub_self]; exact Int.dvd_zero _)⟩
  have ge : ∀ x : Nat, 1 ≤ B.countP (hit x) := fun x => by
    have o := (h.ok p hp).2.1
    have a := all p.1 ((x + 5 * p.1 - p.1).toNat)
    have b := per5 x p.1
    rw [show p.1 + (((x + 5 * p.1 - p.1).toNat : Nat) : Int) = x + 5 * p.1 by omega] at a
    omega
  have s := sum_cnt 5 B
  have l1 : 5 ≤ ((List.range 5).map fun (x : Nat) => B.countP (hit x)).sum := by
    show 5 ≤ B.countP (hit ((0 : Nat) : Int)) + (B.countP (hit ((1 : Nat) : Int)) + (B.countP (hit ((2 : Nat) : Int)) + (B.countP (hit ((3 : Nat) : Int)) + (B.countP (hit ((4 : Nat) : Int)) + 0))))
    have := ge 0; have := ge 1; have := ge 2; have := ge 3; have := ge 4
    omega
  have l2 : (B.map fun p => (List.range 5).countP fun (x : Nat) => hit x p) = B.map fun _ => 1 := List.map_congr_left fun p hp => by
    rw [← block p.1 5 (by decide)]
    refine List.countP_congr fun x _ => ?_
    rw [hit, (bB p hp).2]
    rfl
  rw [l2, List.map_const', List.sum_replicate_nat] at s
  omega
theorem two_of {l : List Cl} (h : l.length = 2) : ∃ a d, l = [a, d] := by
  cases l with
  | nil => cases h
  | cons a l =>
    cases l with
    | nil => cases h
    | cons d l =>
      cases l with
      | nil => exact ⟨a, d, rfl⟩
      | cons e l => simp at h
theorem Part.bigSmall {cs : List Cl} (h : Part cs) {n : Nat} (hn : n ∈ smallR) (hd : ∀ p ∈ cs, p.2 ∣ (n : Int)) : Big cs := by
  have h1 : ∀ p ∈ cs, 1 ≤ p.2 := fun p hp => (h.ok p hp).1
  obtain ⟨b, hb, eb⟩ := maxP_mem h.ne h1
  have hM1 := h1 b hb
  have n0 : 0 < n := by
    have : ∀ m ∈ smallR, 0 < m := by decide
    exact this n hn
  have hMd : maxP cs ∣ (n : Int) := by rw [← eb]; exact hd b hb
  have hMn : maxP cs ≤ n := Int.le_of_dvd (by omega) hMd
  by_cases hM : maxP cs = 1
  · left
    have all1 : ∀ p ∈ cs, hit 0 p = true := fun p hp => by
      have := maxP_ge hp
      have := h1 p hp
      exact hit_iff.mpr (by rw [show p.2 = 1 by omega]; exact Int.one_dvd _)
    have := h.cov 0
    rwa [List.countP_eq_length.mpr all1] at this
  · right
    generalize eM : (maxP cs).toNat = M at *
    have eM' : ((M : Nat) : Int) = maxP cs := by omega
    have c := chk_all
    have c2 := div_small
    rw [List.all_eq_true] at c c2
    have c := c n hn
    have c2 := c2 n hn
    rw [List.all_eq_true] at c c2
    have c := c M (List.mem_range.mpr (by omega))
    have c2 := c2 M (List.mem_range.mpr (by omega))
    have hnM : n % M = 0 := Nat.mod_eq_zero_of_dvd (Int.ofNat_dvd.mp (by rw [eM']; exact hMd))
    have hM2 : ¬ M < 2 := by omega
    simp only [hM2, hnM, decide_false, bne_self_eq_false, Bool.false_or, chk, Bool.and_eq_true] at c c2
    obtain ⟨⟨⟨k1, k2⟩, k3⟩, k4⟩ := c
    have hss : ssF n M ≠ [] := by
      intro e
      rw [e] at k1
      exact absurd k1 (by decide)
    have hk : ∀ p ∈ cs, p.2 ≠ (M : Int) → ∃ s ∈ ssF n M, p.2 ∣ s := fun p hp e => by
      have g1 := h1 p hp
      have g2 := maxP_ge hp
      rw [List.all_eq_true] at k2
      have := k2 p.2.toNat (List.mem_range.mpr (by omega))
      have e2 : ((p.2.toNat : Nat) : Int) = p.2 := by omega
      have hdn : n % p.2.toNat = 0 := Nat.mod_eq_zero_of_dvd (Int.ofNat_dvd.mp (by rw [e2]; exact hd p hp))
      simp only [hdn, e2, bne_self_eq_false, Bool.or_false, Bool.or_eq_true, beq_iff_eq, List.any_eq_true] at this
      rcases this with z | ⟨s, hs, hz⟩
      · omega
      · exact ⟨s, hs, Int.dvd_of_emod_eq_zero hz⟩
    rw [beq_iff_eq] at k3
    rw [← eM']
    have cp : 1 ≤ cntP cs := by
      rw [cntP_eq]
      exact List.countP_pos_iff.mpr ⟨b, hb, by simpa using eb⟩
    have bal := fun x => h.balance hss hk x
    have ec : cntP cs = (cs.filter fun p => decide (p.2 = (M : Int))).length := by rw [cntP_eq, ← eM', List.countP_eq_length_filter]
    have two : 2 ≤ cntP cs := by
      rcases Nat.lt_or_ge 1 (cntP cs) with z | z
      · exact z
      · exfalso
        have e1 : (cs.filter fun p => decide (p.2 = (M : Int))).length = 1 := by omega
        obtain ⟨a, ea⟩ := List.length_eq_one_iff.mp e1
        have := bal a.1
        rw [ea] at this
        simp only [List.map_cons, List.map_nil, List.sum_cons, List.sum_nil, Int.sub_self] at this
        omega
    simp only [Bool.or_eq_true, beq_iff_eq] at c2 k4
    rcases c2 with (c2 | c2) | c2
    · rw [lfac_even (by omega) (by omega)]
      omega
    · subst c2
      rw [show ((5 : Nat) : Int) = 5 from rfl, five_lf]
      have n30 : n = 30 := by
        have : ∀ m ∈ smallR, m % 5 = 0 → m = 30 := by decide
        exact this n hn hnM
      subst n30
      have := h.five (by omega) fun p hp e => by
        have g1 := h1 p hp
        have g2 := maxP_ge hp
        have g3 := hd p hp
        have : p.2 = 1 ∨ p.2 = 2 ∨ p.2 = 3 ∨ p.2 = 4 := by omega
        rcases this with z | z | z | z <;> rw [z] at g3 ⊢ <;> first | decide | exact absurd g3 (by decide)
      omega
    · have hm3 : M ∈ ([3, 9, 15] : List Nat) := by simpa using c2
      rw [odd_lf hm3]
      rcases Nat.lt_or_ge 2 (cntP cs) with z | z
      · omega
      · exfalso
        have e1 : (cs.filter fun p => decide (p.2 = (M : Int))).length = 2 := by omega
        have hM' : M = 3 ∨ M = 9 ∨ M = 15 := by simpa using hm3
        rcases k4 with (k4 | k4) | k4
        · omega
        · omega
        · obtain ⟨a, d, hq⟩ := two_of e1
          have b1 := bal a.1
          have b2 := bal d.1
          rw [hq] at b1 b2
          simp only [List.map_cons, List.map_nil, List.sum_cons, List.sum_nil, Int.sub_self] at b1 b2
          rw [List.all_eq_true] at k4
          have r0 := Int.emod_nonneg (a.1 - d.1) (show (M : Int) ≠ 0 by omega)
          have r1 := Int.emod_lt_of_pos (a.1 - d.1) (show (0 : Int) < M by omega)
          have k := k4 ((a.1 - d.1) % M).toNat (List.mem_range.mpr (by omega))
          rw [show ((((a.1 - d.1) % M).toNat : Nat) : Int) = (a.1 - d.1) % M by omega] at k
          have em := Int.emod_add_mul_ediv (a.1 - d.1) M
          have f1 : ker (ssF n M) M ((a.1 - d.1) % M) = ker (ssF n M) M (a.1 - d.1) := by
            conv => rhs; rw [← em]
            rw [ker_mod]
          have f2 : ker (ssF n M) M (-((a.1 - d.1) % M)) = ker (ssF n M) M (d.1 - a.1) := by
            rw [show d.1 - a.1 = -((a.1 - d.1) % M) + M * (-((a.1 - d.1) / M)) by rw [Int.mul_neg]; omega, ker_mod]
          rw [f1, f2] at k
          have g1 : ker (ssF n M) M (a.1 - d.1) = -1 := by omega
          have g2 : ker (ssF n M) M (d.1 - a.1) = -1 := by omega
          rw [g1, g2] at k
          exact absurd k (by decide)
end My

/-! k66O: the law's lists; what is left out. -/
namespace My
open V3
theorem one_big : Big [(0, 1)] := .inl rfl
theorem crk_all2 : ∀ n : Fin 30, ((crkM (n.val : Int) 30).any fun p => p.2 == 30) = true ∧ 2 ≤ (crkM (n.val : Int) 30).countP fun p => p.2 == 30 := by decide +kernel
theorem crk_big {s : Int} (h0 : 0 ≤ s) (h1 : s < 30) : Big (crkM s 30) := by
  obtain ⟨hp, hb⟩ := crk_part h0 h1
  obtain ⟨a, b⟩ := crk_all2 ⟨s.toNat, by omega⟩
  have e : ((s.toNat : Nat) : Int) = s := by omega
  simp only [e] at a b
  obtain ⟨p, hm, hz⟩ := List.any_eq_true.mp a
  have em : maxP (crkM s 30) = 30 := maxP_is ⟨p, hm, beq_iff_eq.mp hz⟩ hb fun q hq => (hp.ok q hq).1
  right
  rw [em, lfac_even (by decide) (by decide), cntP_eq, em]
  have : (crkM s 30).countP (fun p => decide (p.2 = 30)) = (crkM s 30).countP fun p => p.2 == 30 := List.countP_congr fun p _ => by simp
  rw [this]
  omega
theorem Big.sorted {cs : List Cl} (b : Big cs) (h : Part cs) : Big (cs.mergeSort leP) := b.perm (List.mergeSort_perm _ _).symm (fun p hp => (h.ok p hp).1) h.ne
theorem ali_big {n : Nat} (h : 0 < n) : Big (aliF n) := by
  have hp := ali_part h
  have e2 : ∀ p ∈ aliF n, p.2 = (n : Int) := fun p hm => by
    obtain ⟨k, _, rfl⟩ := List.mem_map.mp hm
    rfl
  have em : maxP (aliF n) = n := maxP_is ⟨(0, (n : Int)), List.mem_map.mpr ⟨0, List.mem_range.mpr h, rfl⟩, rfl⟩ (fun p hm => by rw [e2 p hm]; exact Int.le_refl _) fun p hm => (hp.ok p hm).1
  right
  rw [em, cntP_eq, em, List.countP_eq_length.mpr fun p hm => by simpa using e2 p hm]
  have := lfac_le (n := n) (by omega)
  simp only [aliF, List.length_map, List.length_range]
  exact this
theorem ch_big (n : Nat) (h : 1 ≤ n) : Big (chF n ++ [(((2 ^ n : Nat) : Int) - 1, ((2 ^ n : Nat) : Int))]) := by
  have hp := ch_part n
  have t1 : 2 ^ n = 2 * 2 ^ (n - 1) := by
    conv => lhs; rw [show n = n - 1 + 1 by omega, Nat.pow_succ]
    omega
  have t0 := Nat.two_pow_pos (n - 1)
  have em : maxP (chF n ++ [(((2 ^ n : Nat) : Int) - 1, ((2 ^ n : Nat) : Int))]) = ((2 ^ n : Nat) : Int) := maxP_is ⟨(((2 ^ n : Nat) : Int) - 1, ((2 ^ n : Nat) : Int)), by simp, rfl⟩ (ch_le (Int.le_refl _)) fun p hm => (hp.ok p hm).1
  right
  rw [em, lfac_even (by omega) (by omega), cntP_eq, em, List.countP_append]
  have a : 1 ≤ (chF n).countP fun p => decide (p.2 = ((2 ^ n : Nat) : Int)) := List.countP_pos_iff.mpr ⟨_, List.mem_map.mpr ⟨n - 1, List.mem_range.mpr (by omega), rfl⟩, by
    show decide (2 * ((2 ^ (n - 1) : Nat) : Int) = _) = true
    rw [decide_eq_true_eq]
    omega⟩
  rw [List.countP_singleton, if_pos (by simp)]
  omega
/-- (0, 2) and the odd days -/
def odF (m : Nat) : List Cl := [((0 : Int), (2 : Int))] ++ (List.range m).map fun (k : Nat) => (2 * (k : Int) + 1, 2 * (m : Int))
theorem od_part {m : Nat} (h : 0 < m) : Part (odF m) := by
  refine ⟨fun p hp => ?_, fun x => ?_⟩
  · rcases List.mem_append.mp hp with hp | hp
    · cases List.mem_singleton.mp hp
      exact ⟨by decide, by decide, by decide⟩
    · obtain ⟨k, hk, rfl⟩ := List.mem_map.mp hp
      have := List.mem_range.mp hk
      refine ⟨?_, ?_, ?_⟩ <;> simp only <;> omega
  · rw [odF, List.countP_append, List.countP_singleton, List.countP_map]
    have e : hit x (0, 2) = true ↔ x % 2 = 0 := by simp [hit]
    by_cases h2 : x % 2 = 0
    · rw [if_pos (e.mpr h2)]
      have : (List.range m).countP (hit x ∘ fun (k : Nat) => (2 * (k : Int) + 1, 2 * (m : Int))) = 0 := List.countP_eq_zero.mpr fun k _ z => by
        obtain ⟨q, hq⟩ := hit_iff.mp z
        have hq' : x - (2 * (k : Int) + 1) = 2 * (m : Int) * q := hq
        rw [Int.mul_assoc] at hq'
        omega
      omega
    · rw [if_neg (fun z => h2 (e.mp z)), Nat.zero_add, ← block ((x - 1) / 2) m h]
      refine List.countP_congr fun k _ => ?_
      show hit x (2 * (k : Int) + 1, 2 * (m : Int)) = true ↔ _
      rw [hit_iff, decide_eq_true_eq, ← Int.dvd_iff_emod_eq_zero]
      show 2 * (m : Int) ∣ x - (2 * (k : Int) + 1) ↔ _
      rw [show x - (2 * (k : Int) + 1) = 2 * ((x - 1) / 2 - k) by omega, Int.mul_dvd_mul_iff_left (by decide), ← Int.dvd_neg, Int.neg_sub]
theorem od_big {m : Nat} (h : 2 ≤ m) : Big (odF m) := by
  have hp := od_part (show 0 < m by omega)
  have em : maxP (odF m) = 2 * (m : Int) := maxP_is ⟨(2 * ((0 : Nat) : Int) + 1, 2 * (m : Int)), List.mem_append_right _ (List.mem_map.mpr ⟨0, List.mem_range.mpr (by omega), rfl⟩), rfl⟩ (fun p hm => by
    rcases List.mem_append.mp hm with hm | hm
    · cases List.mem_singleton.mp hm
      show (2 : Int) ≤ _
      omega
    · obtain ⟨k, hk, rfl⟩ := List.mem_map.mp hm
      exact Int.le_refl _) fun p hm => (hp.ok p hm).1
  right
  rw [em, lfac_even (by omega) (by omega), cntP_eq, em, odF, List.countP_append]
  have : ((List.range m).map fun (k : Nat) => (2 * (k : Int) + 1, 2 * (m : Int))).countP (fun p => decide (p.2 = 2 * (m : Int))) = m := by
    rw [List.countP_eq_length.mpr fun p hm => by
      obtain ⟨k, hk, rfl⟩ := List.mem_map.mp hm
      simp]
    simp
  rw [this]
  omega
/-! ### what is left -/
structure SubP (cs : List Cl) : Prop where
  ok : ∀ p ∈ cs, Ok p
  one : ∀ x : Int, cs.countP (hit x) ≤ 1
  lft : ∃ y : Int, cs.countP (hit y) = 0
theorem Part.sub {cs ds : List Cl} (h : Part cs) {n : Nat} (hn : n < cs.length) (hs : ds.Sublist (cs.take n ++ cs.drop (n + 1))) : SubP ds ∧ (∀ x : Int, ds.countP (hit x) = 0 → hit x (cs.getD n (0, 0)) = true ∨ ds ≠ cs.take n ++ cs.drop (n + 1)) ∧ ds.countP (hit (cs.getD n (0, 0)).1) = 0 := by
  have pm := cut_perm hn
  have c := fun x => h.cov x
  have z : (cs.take n ++ cs.drop (n + 1)).countP (hit (cs.getD n (0, 0)).1) = 0 := by
    have := c (cs.getD n (0, 0)).1
    rw [pm.countP_eq, List.countP_cons_of_pos (hit_iff.mpr (by rw [Int.sub_self]; exact Int.dvd_zero _))] at this
    omega
  have le : ∀ x : Int, ds.countP (hit x) ≤ (cs.take n ++ cs.drop (n + 1)).countP (hit x) := fun x => hs.countP_le
  refine ⟨⟨fun p hp => h.ok p (pm.mem_iff.mpr (List.mem_cons_of_mem _ (hs.mem hp))), fun x => ?_, ⟨(cs.getD n (0, 0)).1, ?_⟩⟩, fun x hx => ?_, ?_⟩
  · have := c x
    rw [pm.countP_eq, List.countP_cons] at this
    have := le x
    omega
  · have := le (cs.getD n (0, 0)).1
    omega
  · by_cases e : ds = cs.take n ++ cs.drop (n + 1)
    · left
      rw [e] at hx
      have := c x
      rw [pm.countP_eq, List.countP_cons, hx] at this
      by_cases q : hit x (cs.getD n (0, 0)) = true
      · exact q
      · rw [if_neg q] at this
        omega
    · exact .inr e
  · have := le (cs.getD n (0, 0)).1
    omega
theorem sub_cut : ∀ {cs ds : List Cl}, ds.Sublist cs → ds.length < cs.length → ∃ n, n < cs.length ∧ ds.Sublist (cs.take n ++ cs.drop (n + 1))
  | _, _, .slnil, h => absurd h (Nat.lt_irrefl _)
  | _, _, .cons a s, h => ⟨0, Nat.zero_lt_succ _, by simpa using s⟩
  | _, _, .cons_cons a s, h => by
    obtain ⟨n, h1, h2⟩ := sub_cut s (by simpa using h)
    exact ⟨n + 1, by simpa using h1, by simpa using h2.cons_cons a⟩
theorem SubP.notAll {cs : List Cl} (h : SubP cs) : ¬ ((cs.map fun p => rnd cs / p.2).sum = rnd cs) := by
  intro e
  obtain ⟨a, _, c⟩ := rnd_facts cs 1 (by decide) fun p hp => (h.ok p hp).1
  have a' : 0 < rnd cs := a
  have c' : ∀ p ∈ cs, p.2 ∣ rnd cs := c
  obtain ⟨y, hy⟩ := h.lft
  have per : ∀ x : Int, cs.countP (hit (x % rnd cs)) = cs.countP (hit x) := fun x => List.countP_congr fun p hp => by
    obtain ⟨q, hq⟩ := c' p hp
    rw [hit_iff, hit_iff]
    have e2 : x - p.1 = (x % rnd cs - p.1) + p.2 * (q * (x / rnd cs)) := by
      have := Int.emod_add_mul_ediv x (rnd cs)
      rw [← Int.mul_assoc, ← hq]
      omega
    rw [e2]
    exact ⟨fun z => Int.dvd_add z (Int.dvd_mul_right _ _), fun z => (Int.dvd_add_left (Int.dvd_mul_right _ _)).mp z⟩
  -- fill the gap: one class more of period rnd would make the sum too great
  have s := sum_cnt (rnd cs).toNat cs
  have y0 := Int.emod_nonneg y (show rnd cs ≠ 0 by omega)
  have y1 := Int.emod_lt_of_pos y a'
  have lt : ∀ (l : List Nat), (y % rnd cs).toNat ∈ l → (l.map fun (x : Nat) => cs.countP (hit x)).sum < l.length := by
    intro l
    induction l with
    | nil => intro h; cases h
    | cons x l ih =>
      intro hm
      rw [List.map_cons, List.sum_cons, List.length_cons]
      have bnd : ∀ l : List Nat, (l.map fun (x : Nat) => cs.countP (hit x)).sum ≤ l.length := by
        intro l
        induction l with
        | nil => exact Nat.le_refl _
        | cons x l ih =>
          rw [List.map_cons, List.sum_cons, List.length_cons]
          have := h.one x
          omega
      rcases List.mem_cons.mp hm with e3 | hm
      · have := per y
        rw [hy, show y % rnd cs = ((x : Nat) : Int) by omega] at this
        have := bnd l
        omega
      · have := ih hm
        have := h.one x
        omega
  have l1 := lt (List.range (rnd cs).toNat) (List.mem_range.mpr (by omega))
  rw [s, List.length_range] at l1
  have e5 : ∀ l : List Cl, (∀ p ∈ l, p ∈ cs) → (((l.map fun p => (List.range (rnd cs).toNat).countP fun (x : Nat) => hit x p).sum : Nat) : Int) = (l.map fun p => rnd cs / p.2).sum := by
    intro l
    induction l with
    | nil => intro _; rfl
    | cons p l ih =>
      intro hl
      have ih' := ih fun q hq => hl q (List.mem_cons_of_mem _ hq)
      have hp := hl p List.mem_cons_self
      have o := (h.ok p hp).1
      obtain ⟨q, hq⟩ := c' p hp
      have hq0 : 0 < q := by
        rcases Int.lt_or_le 0 q with h | h
        · exact h
        · have := Int.mul_nonpos_of_nonneg_of_nonpos (show 0 ≤ p.2 by omega) h
          omega
      have d : rnd cs / p.2 = q := by
        conv => lhs; lhs; rw [hq]
        exact Int.mul_ediv_cancel_left _ (by omega)
      have eN : (rnd cs).toNat = p.2.toNat * q.toNat := by
        conv => lhs; rw [hq]
        rw [Int.toNat_mul (by omega) (by omega)]
      have k := cnt_mul p.1 p.2.toNat (by omega) q.toNat
      have k2 : (List.range (rnd cs).toNat).countP (fun (x : Nat) => hit x p) = q.toNat := by
        rw [eN, ← k]
        refine (List.countP_congr fun x _ => ?_).trans (congrArg _ (by rw [k]))
        rw [hit, show ((p.2.toNat : Nat) : Int) = p.2 by omega]
      rw [List.map_cons, List.sum_cons, List.map_cons, List.sum_cons, d, ← ih', k2]
      omega
  have := e5 cs fun _ h => h
  omega
/-! ### the first day that is left -/
theorem SubP.ex {cs : List Cl} (h : SubP cs) : ∃ n : Nat, cs.countP (hit n) = 0 := by
  obtain ⟨y, hy⟩ := h.lft
  obtain ⟨a, _, c⟩ := rnd_facts cs 1 (by decide) fun p hp => (h.ok p hp).1
  have a' : 0 < rnd cs := a
  have y0 := Int.emod_nonneg y (show rnd cs ≠ 0 by omega)
  refine ⟨(y % rnd cs).toNat, ?_⟩
  rw [show (((y % rnd cs).toNat : Nat) : Int) = y % rnd cs by omega, ← hy]
  refine List.countP_congr fun p hp => ?_
  obtain ⟨q, hq⟩ := c p hp
  have hq : rnd cs = p.2 * q := hq
  rw [hit_iff, hit_iff]
  have e2 : y - p.1 = (y % rnd cs - p.1) + p.2 * (q * (y / rnd cs)) := by
    have := Int.emod_add_mul_ediv y (rnd cs)
    rw [← Int.mul_assoc, ← hq]
    omega
  rw [e2]
  exact ⟨fun z => Int.dvd_add z (Int.dvd_mul_right _ _), fun z => (Int.dvd_add_left (Int.dvd_mul_right _ _)).mp z⟩
open Classical in
noncomputable def leftF (cs : List Cl) : Int := if h : ∃ n : Nat, cs.countP (hit n) = 0 then ((Classical.choose (least h) : Nat) : Int) else 0
theorem left_spec {cs : List Cl} (h : ∃ n : Nat, cs.countP (hit n) = 0) : 0 ≤ leftF cs ∧ cs.countP (hit (leftF cs)) = 0 ∧ ∀ x : Int, 0 ≤ x → x < leftF cs → cs.countP (hit x) ≠ 0 := by
  have s := Classical.choose_spec (least h)
  rw [leftF, dif_pos h]
  refine ⟨by omega, s.1, fun x h0 h1 => ?_⟩
  have := s.2 x.toNat (by omega)
  rwa [show ((x.toNat : Nat) : Int) = x by omega] at this
theorem left_is {cs : List Cl} {y : Int} (h0 : 0 ≤ y) (h : cs.countP (hit y) = 0) (h1 : ∀ x : Int, 0 ≤ x → x < y → cs.countP (hit x) ≠ 0) : leftF cs = y := by
  obtain ⟨a, b, c⟩ := left_spec (cs := cs) ⟨y.toNat, by rwa [show ((y.toNat : Nat) : Int) = y by omega]⟩
  rcases Int.lt_trichotomy (leftF cs) y with z | z | z
  · exact absurd b (h1 _ a z)
  · exact z
  · exact absurd h (c y h0 z)
theorem held_iff {x : Int} {p : Cl} (h : Ok p) : x % p.2 = p.1 ↔ hit x p = true := by
  obtain ⟨a, b, c⟩ := h
  rw [hit_iff, Int.dvd_iff_emod_eq_zero, ← Int.emod_eq_emod_iff_emod_sub_eq_zero, Int.emod_eq_of_lt b c]
theorem cnt_zero {cs : List Cl} {x : Int} : cs.countP (hit x) = 0 ↔ ∀ p ∈ cs, hit x p = false := by
  rw [List.countP_eq_zero]
  simp
/-! ### fewer of the greatest -/
def stepF (most : Int) (st : List Cl × Int) (p : Cl) : List Cl × Int := if p.2 < most ∨ 0 < st.2 then (st.1 ++ [p], st.2 - if p.2 = most then 1 else 0) else st
def fewF (cs : List Cl) (most few : Int) : List Cl := (cs.foldl (stepF most) ([], few)).1
theorem revInd {α : Type} {P : List α → Prop} (h0 : P []) (hs : ∀ l a, P l → P (l ++ [a])) (l : List α) : P l := by
  rw [← List.reverse_reverse l]
  induction l.reverse with
  | nil => exact h0
  | cons a t ih => rw [List.reverse_cons]; exact hs _ _ ih
theorem few_inv (most few : Int) (hf : 0 ≤ few) : ∀ cs : List Cl, (∀ p ∈ cs, p.2 ≤ most) → (cs.foldl (stepF most) ([], few)).1.Sublist cs ∧ 0 ≤ (cs.foldl (stepF most) ([], few)).2 ∧
    (((cs.foldl (stepF most) ([], few)).1.countP fun p => decide (p.2 = most) : Nat) : Int) + (cs.foldl (stepF most) ([], few)).2 = few ∧ (0 < few → cs ≠ [] → (cs.foldl (stepF most) ([], few)).1 ≠ []) := by
  intro cs
  induction cs using revInd with
  | h0 => exact fun _ => ⟨.slnil, hf, by simp, fun _ h => absurd rfl h⟩
  | hs cs p ih =>
    intro hm
    obtain ⟨a, b, c, d⟩ := ih fun q hq => hm q (List.mem_append_left _ hq)
    rw [List.foldl_append, List.foldl_cons, List.foldl_nil]
    generalize cs.foldl (stepF most) ([], few) = st at *
    unfold stepF
    have hp := hm p (List.mem_append_right _ List.mem_cons_self)
    split
    · rename_i h
      refine ⟨a.append (List.Sublist.refl _), ?_, ?_, fun _ _ => by simp⟩
      · simp only
        split <;> omega
      · simp only [List.countP_append, List.countP_singleton, decide_eq_true_eq]
        split <;> omega
    · rename_i h
      refine ⟨a.trans (List.sublist_append_left _ _), b, c, fun hf' _ => ?_⟩
      intro e
      rw [e] at c
      simp only [List.countP_nil] at c
      omega
end My
namespace My
def fillB (cs : List Cl) : Bool := decide ((cs.map fun p => rnd cs / p.2).sum = rnd cs)
theorem rounds_small (c : Int) : (([6, 8, 12, 18, 24, 30] : List Int).getD (c % 6).toNat 0).toNat ∈ smallR := by
  have h0 := Int.emod_nonneg c (show (6 : Int) ≠ 0 by decide)
  have h1 := Int.emod_lt_of_pos c (show (0 : Int) < 6 by decide)
  have : ∀ n : Nat, n < 6 → (([6, 8, 12, 18, 24, 30] : List Int).getD n 0).toNat ∈ smallR := by decide
  exact this _ (by omega)
end My
/-! all partings of a small round -/
namespace My
open V3
structure Pg (n : Nat) (cs : List Cl) : Prop where
  ok : ∀ p ∈ cs, Ok p ∧ p.2 ∣ (n : Int)
  one : ∀ x : Int, cs.countP (hit x) ≤ 1
theorem Pg.nil (n : Nat) : Pg n [] := ⟨fun _ h => (by cases h), fun _ => (by simp)⟩
theorem Pg.period {n : Nat} {cs : List Cl} (h : Pg n cs) (x : Int) : cs.countP (hit (x % n)) = cs.countP (hit x) := List.countP_congr fun p hp => by
  obtain ⟨q, hq⟩ := (h.ok p hp).2
  rw [hit_iff, hit_iff]
  have e : x - p.1 = (x % n - p.1) + p.2 * (q * (x / n)) := by
    have := Int.emod_add_mul_ediv x n
    rw [← Int.mul_assoc, ← hq]
    omega
  rw [e]
  exact ⟨fun z => Int.dvd_add z (Int.dvd_mul_right _ _), fun z => (Int.dvd_add_left (Int.dvd_mul_right _ _)).mp z⟩
theorem Pg.add {n : Nat} {cs : List Cl} (h : Pg n cs) (hn : 0 < n) {d q : Int} (h0 : 0 ≤ d) (h1 : d < q) (hq : q ∣ (n : Int)) (hf : ∀ k : Nat, d + k * q < n → cs.countP (hit (d + k * q)) = 0) : Pg n (cs ++ [(d, q)]) := by
  refine ⟨fun p hp => ?_, fun x => ?_⟩
  · rcases List.mem_append.mp hp with hp | hp
    · exact h.ok p hp
    · cases List.mem_singleton.mp hp
      exact ⟨⟨by show (1 : Int) ≤ q; omega, h0, h1⟩, hq⟩
  · rw [List.countP_append, List.countP_singleton]
    split
    · rename_i hx
      have y0 := Int.emod_nonneg x (show (n : Int) ≠ 0 by omega)
      have y1 := Int.emod_lt_of_pos x (show (0 : Int) < n by omega)
      obtain ⟨k, hk⟩ := hit_iff.mp hx
      obtain ⟨r, hr⟩ := hq
      have hk' : x - d = q * k := hk
      have ey : x % n = d + q * (k - r * (x / n)) := by
        have := Int.emod_add_mul_ediv x n
        have e2 : (n : Int) * (x / n) = q * (r * (x / n)) := by rw [hr, Int.mul_assoc]
        rw [Int.mul_sub]
        omega
      generalize k - r * (x / n) = j at ey
      have j0 : 0 ≤ j := by
        rcases Int.lt_or_le j 0 with z | z
        · have : q * j ≤ q * (-1) := Int.mul_le_mul_of_nonneg_left (by omega) (by omega)
          omega
        · exact z
      have := hf j.toNat (by rw [show ((j.toNat : Nat) : Int) = j by omega, Int.mul_comm]; omega)
      rw [show ((j.toNat : Nat) : Int) = j by omega, Int.mul_comm, ← ey, h.period] at this
      omega
    · have := h.one x
      omega
theorem Pg.part {n : Nat} {cs : List Cl} (h : Pg n cs) (hn : 0 < n) (hf : ∀ x : Int, 0 ≤ x → x < n → cs.countP (hit x) ≠ 0) : Part cs :=
  ⟨fun p hp => (h.ok p hp).1, cov_of (N := n) (by omega) (fun p hp => (h.ok p hp).2) fun x h0 h1 => by have := h.one x; have := hf x h0 h1; omega⟩
def GoodL (n : Nat) (cs : List Cl) : Prop := Part cs ∧ Srt cs ∧ Big cs ∧ (∀ p ∈ cs, p.2 ≤ n) ∧ cs.length ≤ 20000
/-- the days that no class holds -/
theorem mem_free {cs : List Cl} {n : Int} {fr : List Int} (hok : ∀ p ∈ cs, Ok p)
    (h : fr = (((List.range n.toNat).map fun k => 0 + ((k : Nat) : Int) * 1).filter fun xa => decide (((cs.filter fun xa2 => decide (xa % xa2.2 = xa2.1)).map fun xa2 => xa2) = [])).map fun xa => xa) (d : Int) :
    d ∈ fr ↔ (0 ≤ d ∧ d < n) ∧ cs.countP (hit d) = 0 := by
  rw [h, List.map_id', List.mem_filter, List.mem_map, decide_eq_true_eq, List.map_id', List.filter_eq_nil_iff, cnt_zero]
  constructor
  · rintro ⟨⟨k, hk, rfl⟩, hf⟩
    have := List.mem_range.mp hk
    refine ⟨by omega, fun p hp => ?_⟩
    have := hf p hp
    rw [decide_eq_true_eq, held_iff (hok p hp)] at this
    exact eq_false_of_ne_true this
  · rintro ⟨⟨a, b⟩, hf⟩
    refine ⟨⟨d.toNat, List.mem_range.mpr (by omega), by omega⟩, fun p hp => ?_⟩
    rw [decide_eq_true_eq, held_iff (hok p hp), hf p hp]
    decide
theorem free_days {day n q : Int} {fr : List Int} (hq : 0 < q) (h : ((((List.range (rgN day n q)).map fun k => day + ((k : Nat) : Int) * q).filter fun xa => !decide (xa ∈ fr)).map fun xa => xa) = []) (k : Nat) (hk : day + k * q < n) : day + k * q ∈ fr := by
  rw [List.map_id', List.filter_eq_nil_iff] at h
  have := h (day + k * q) (List.mem_map.mpr ⟨k, List.mem_range.mpr ((rgN_lt hq).mpr hk), rfl⟩)
  simpa using this
end My
namespace My
open V3 PySem
def GoodM (l : List Cl) : Prop := Part l ∧ Big l ∧ l.length < 1000 ∧ ∀ p ∈ l, p.2 ≤ 10000000
theorem ali_m {n : Nat} (h : 0 < n) (h2 : n < 1000) : GoodM (aliF n) := ⟨ali_part h, ali_big h, by simp [aliF]; exact h2, fun p hp => by
  obtain ⟨k, _, rfl⟩ := List.mem_map.mp hp
  show (n : Int) ≤ _
  omega⟩
theorem od_m {m : Nat} (h : 2 ≤ m) (h2 : m < 900) : GoodM (odF m) := ⟨od_part (by omega), od_big h, by rw [odF, List.length_append, List.length_map, List.length_range, List.length_singleton]; omega, fun p hp => by
  rcases List.mem_append.mp hp with hp | hp
  · cases List.mem_singleton.mp hp; decide
  · obtain ⟨k, _, rfl⟩ := List.mem_map.mp hp
    show 2 * (m : Int) ≤ _
    omega⟩
theorem ch_m {n : Nat} (h : 1 ≤ n) (h2 : n ≤ 20) : GoodM (chF n ++ [(((2 ^ n : Nat) : Int) - 1, ((2 ^ n : Nat) : Int))]) := ⟨ch_part n, ch_big n h, by rw [List.length_append, chF_len]; show _ + 1 < _; omega, ch_le (by
  have : 2 ^ n ≤ 2 ^ 20 := Nat.pow_le_pow_right (by decide) h2
  omega)⟩
theorem cnt_le (cs : List Cl) : cntP cs ≤ cs.length := by rw [cntP_eq]; exact List.countP_le_length
theorem few_facts {cs : List Cl} (h : Part cs) (hs : Srt cs) (hM : 2 ≤ maxP cs) : let K := fewF cs (maxP cs) (lfac (maxP cs) - 1)
    K.Sublist cs ∧ K ≠ [] ∧ (lfac (maxP cs) ≤ cntP cs → K.length < cs.length) := by
  have l2 := (lfac_ge hM).1
  obtain ⟨a, b, c, d⟩ := few_inv (maxP cs) (lfac (maxP cs) - 1) (by omega) cs fun p hp => maxP_ge hp
  refine ⟨a, d (by omega) h.ne, fun hc => ?_⟩
  rcases Nat.lt_or_ge (fewF cs (maxP cs) (lfac (maxP cs) - 1)).length cs.length with z | z
  · exact z
  · have e := a.eq_of_length_le z
    rw [e, ← cntP_eq] at c
    omega
theorem Part.one_of {cs : List Cl} (h : Part cs) (hM : ¬ 2 ≤ maxP cs) : cs.length = 1 := by
  have all1 : ∀ p ∈ cs, hit 0 p = true := fun p hp => by
    have := maxP_ge hp
    have := (h.ok p hp).1
    exact hit_iff.mpr (by rw [show p.2 = 1 by omega]; exact Int.one_dvd _)
  have := h.cov 0
  rwa [List.countP_eq_length.mpr all1] at this
theorem sh_left (x : Int) : SeqAt.shaped (.tuple [.str "left", .int x]) = true := by
  have : PyData.strOk "left" = true := by decide +kernel
  simp [SeqAt.shaped, PyData.canLay0, PyData.canLayAll0, PyData.depth, PyData.depthAll, this]
theorem sh_part : SeqAt.shaped (.tuple [.str "parting"]) = true := by
  have : PyData.strOk "parting" = true := by decide +kernel
  simp [SeqAt.shaped, PyData.canLay0, PyData.canLayAll0, PyData.depth, PyData.depthAll, this]
theorem eqv_lp (x : Int) : PyData.eqv (.tuple [.str "left", .int x]) (.tuple [.str "parting"]) = false := by
  simp [PyData.eqv, PyData.eqvAll]
theorem eqv_ll (x : Int) : PyData.eqv (.tuple [.str "left", .int x]) (.tuple [.str "left", .int x]) = true := by
  simp [PyData.eqv, PyData.eqvAll]
theorem left_drop {cs : List Cl} (h : Part cs) {n : Nat} (hn : n < cs.length) : leftF (cs.take n ++ cs.drop (n + 1)) = (cs.getD n (0, 0)).1 := by
  obtain ⟨a, b, c⟩ := h.sub hn (List.Sublist.refl _)
  obtain ⟨o1, o2, o3⟩ := h.ok _ (getD_mem hn (0, 0))
  refine left_is o2 c fun x h0 h1 z => ?_
  rcases b x z with q | q
  · have := Int.le_of_dvd (by omega) ((Int.dvd_neg).mpr (hit_iff.mp q))
    omega
  · exact q rfl
end My


namespace My
open PySem PySem.Spec PyProof.Rows L2 V3
def top (i : Nat) : Stmt := PySem.Challenge.pw_daysround_k66_whole_the_greatest_period.main.body.getD i (.Pass ⟨0, 0, 0, 0⟩)
abbrev s_p_is_number : Stmt := top 1
abbrev N_p_is_number : List Str := ["value"]
theorem sc_p_is_number : FnScope N_p_is_number ["value"] (defScope s_p_is_number) := ⟨rfl, rfl, rfl, by decide +kernel, rfl, by decide +kernel, by decide +kernel⟩
abbrev s_p_is_number_tuple : Stmt := top 2
abbrev N_p_is_number_tuple : List Str := ["value", "width", "item"]
theorem sc_p_is_number_tuple : FnScope N_p_is_number_tuple ["value", "width"] (defScope s_p_is_number_tuple) := ⟨rfl, rfl, rfl, by decide +kernel, rfl, by decide +kernel, by decide +kernel⟩
abbrev s_p_is_pair : Stmt := top 3
abbrev N_p_is_pair : List Str := ["value"]
theorem sc_p_is_pair : FnScope N_p_is_pair ["value"] (defScope s_p_is_pair) := ⟨rfl, rfl, rfl, by decide +kernel, rfl, by decide +kernel, by decide +kernel⟩
abbrev s_p_common_divisor : Stmt := top 5
abbrev N_p_common_divisor : List Str := ["first", "second"]
theorem sc_p_common_divisor : FnScope N_p_common_divisor ["first", "second"] (defScope s_p_common_divisor) := ⟨rfl, rfl, rfl, by decide +kernel, rfl, by decide +kernel, by decide +kernel⟩
abbrev s_p_is_class : Stmt := top 7
abbrev N_p_is_class : List Str := ["value"]
theorem sc_p_is_class : FnScope N_p_is_class ["value"] (defScope s_p_is_class) := ⟨rfl, rfl, rfl, by decide +kernel, rfl, by decide +kernel, by decide +kernel⟩
abbrev s_p_is_class_list : Stmt := top 8
abbrev N_p_is_class_list : List Str := ["value", "at"]
theorem sc_p_is_class_list : FnScope N_p_is_class_list ["value"] (defScope s_p_is_class_list) := ⟨rfl, rfl, rfl, by decide +kernel, rfl, by decide +kernel, by decide +kernel⟩
abbrev s_p_do_meet : Stmt := top 9
abbrev N_p_do_meet : List Str := ["first", "second"]
theorem sc_p_do_meet : FnScope N_p_do_meet ["first", "second"] (defScope s_p_do_meet) := ⟨rfl, rfl, rfl, by decide +kernel, rfl, by decide +kernel, by decide +kernel⟩
abbrev s_p_first_meeting : Stmt := top 10
abbrev N_p_first_meeting : List Str := ["classes", "first", "second"]
theorem sc_p_first_meeting : FnScope N_p_first_meeting ["classes"] (defScope s_p_first_meeting) := ⟨rfl, rfl, rfl, by decide +kernel, rfl, by decide +kernel, by decide +kernel⟩
abbrev s_p_common_round : Stmt := top 11
abbrev N_p_common_round : List Str := ["classes", "total", "offset", "period"]
theorem sc_p_common_round : FnScope N_p_common_round ["classes"] (defScope s_p_common_round) := ⟨rfl, rfl, rfl, by decide +kernel, rfl, by decide +kernel, by decide +kernel⟩
abbrev s_p_shares_fill : Stmt := top 12
abbrev N_p_shares_fill : List Str := ["classes", "total", "offset", "period"]
theorem sc_p_shares_fill : FnScope N_p_shares_fill ["classes"] (defScope s_p_shares_fill) := ⟨rfl, rfl, rfl, by decide +kernel, rfl, by decide +kernel, by decide +kernel⟩
abbrev s_p_is_held : Stmt := top 13
abbrev N_p_is_held : List Str := ["classes", "day", "offset", "period"]
theorem sc_p_is_held : FnScope N_p_is_held ["classes", "day"] (defScope s_p_is_held) := ⟨rfl, rfl, rfl, by decide +kernel, rfl, by decide +kernel, by decide +kernel⟩
abbrev s_p_first_left : Stmt := top 14
abbrev N_p_first_left : List Str := ["classes", "day"]
theorem sc_p_first_left : FnScope N_p_first_left ["classes"] (defScope s_p_first_left) := ⟨rfl, rfl, rfl, by decide +kernel, rfl, by decide +kernel, by decide +kernel⟩
abbrev s_p_parting_paper : Stmt := top 15
abbrev N_p_parting_paper : List Str := ["classes", "meeting_pair"]
theorem sc_p_parting_paper : FnScope N_p_parting_paper ["classes"] (defScope s_p_parting_paper) := ⟨rfl, rfl, rfl, by decide +kernel, rfl, by decide +kernel, by decide +kernel⟩
abbrev s_p_is_parting : Stmt := top 16
abbrev N_p_is_parting : List Str := ["value"]
theorem sc_p_is_parting : FnScope N_p_is_parting ["value"] (defScope s_p_is_parting) := ⟨rfl, rfl, rfl, by decide +kernel, rfl, by decide +kernel, by decide +kernel⟩
abbrev s_p_greatest_period : Stmt := top 17
abbrev N_p_greatest_period : List Str := ["classes", "periods", "greatest", "offset", "period"]
theorem sc_p_greatest_period : FnScope N_p_greatest_period ["classes"] (defScope s_p_greatest_period) := ⟨rfl, rfl, rfl, by decide +kernel, rfl, by decide +kernel, by decide +kernel⟩
abbrev s_l_draws : Stmt := top 19
abbrev N_l_draws : List Str := ["script", "many", "found", "cell", "number", "k", "mixed", "base"]
theorem sc_l_draws : FnScope N_l_draws ["script", "many"] (defScope s_l_draws) := ⟨rfl, rfl, rfl, by decide +kernel, rfl, by decide +kernel, by decide +kernel⟩
abbrev s_l_cell : Stmt := top 20
abbrev N_l_cell : List Str := ["draws", "k"]
theorem sc_l_cell : FnScope N_l_cell ["draws", "k"] (defScope s_l_cell) := ⟨rfl, rfl, rfl, by decide +kernel, rfl, by decide +kernel, by decide +kernel⟩
abbrev s_l_is_number : Stmt := top 21
abbrev N_l_is_number : List Str := ["value"]
theorem sc_l_is_number : FnScope N_l_is_number ["value"] (defScope s_l_is_number) := ⟨rfl, rfl, rfl, by decide +kernel, rfl, by decide +kernel, by decide +kernel⟩
abbrev s_l_gcd : Stmt := top 22
abbrev N_l_gcd : List Str := ["first", "second", "rest"]
theorem sc_l_gcd : FnScope N_l_gcd ["first", "second"] (defScope s_l_gcd) := ⟨rfl, rfl, rfl, by decide +kernel, rfl, by decide +kernel, by decide +kernel⟩
abbrev s_l_is_pair : Stmt := top 23
abbrev N_l_is_pair : List Str := ["value"]
theorem sc_l_is_pair : FnScope N_l_is_pair ["value"] (defScope s_l_is_pair) := ⟨rfl, rfl, rfl, by decide +kernel, rfl, by decide +kernel, by decide +kernel⟩
abbrev s_l_is_class : Stmt := top 24
abbrev N_l_is_class : List Str := ["value"]
theorem sc_l_is_class : FnScope N_l_is_class ["value"] (defScope s_l_is_class) := ⟨rfl, rfl, rfl, by decide +kernel, rfl, by decide +kernel, by decide +kernel⟩
abbrev s_l_is_classes : Stmt := top 25
abbrev N_l_is_classes : List Str := ["value", "k"]
theorem sc_l_is_classes : FnScope N_l_is_classes ["value"] (defScope s_l_is_classes) := ⟨rfl, rfl, rfl, by decide +kernel, rfl, by decide +kernel, by decide +kernel⟩
abbrev s_l_meets : Stmt := top 26
abbrev N_l_meets : List Str := ["first", "second"]
theorem sc_l_meets : FnScope N_l_meets ["first", "second"] (defScope s_l_meets) := ⟨rfl, rfl, rfl, by decide +kernel, rfl, by decide +kernel, by decide +kernel⟩
abbrev s_l_round : Stmt := top 27
abbrev N_l_round : List Str := ["classes", "total", "offset", "period"]
theorem sc_l_round : FnScope N_l_round ["classes"] (defScope s_l_round) := ⟨rfl, rfl, rfl, by decide +kernel, rfl, by decide +kernel, by decide +kernel⟩
abbrev s_l_is_parting : Stmt := top 28
abbrev N_l_is_parting : List Str := ["value", "k", "j", "total", "offset", "period"]
theorem sc_l_is_parting : FnScope N_l_is_parting ["value"] (defScope s_l_is_parting) := ⟨rfl, rfl, rfl, by decide +kernel, rfl, by decide +kernel, by decide +kernel⟩
abbrev s_l_split : Stmt := top 29
abbrev N_l_split : List Str := ["classes", "at", "times", "offset", "period", "parts", "k"]
theorem sc_l_split : FnScope N_l_split ["classes", "at", "times"] (defScope s_l_split) := ⟨rfl, rfl, rfl, by decide +kernel, rfl, by decide +kernel, by decide +kernel⟩
abbrev s_l_splits : Stmt := top 30
abbrev N_l_splits : List Str := ["draws", "at", "many", "most", "classes", "steps", "k", "cell", "place", "prime"]
theorem sc_l_splits : FnScope N_l_splits ["draws", "at", "many", "most"] (defScope s_l_splits) := ⟨rfl, rfl, rfl, by decide +kernel, rfl, by decide +kernel, by decide +kernel⟩
abbrev s_l_greedy : Stmt := top 31
abbrev N_l_greedy : List Str := ["draws", "at", "n", "owner", "classes", "divisors", "day", "periods", "period", "k"]
theorem sc_l_greedy : FnScope N_l_greedy ["draws", "at", "n"] (defScope s_l_greedy) := ⟨rfl, rfl, rfl, by decide +kernel, rfl, by decide +kernel, by decide +kernel⟩
abbrev s_l_crooked : Stmt := top 32
abbrev N_l_crooked : List Str := ["draws", "at", "shift", "classes", "day", "one"]
theorem sc_l_crooked : FnScope N_l_crooked ["draws", "at"] (defScope s_l_crooked) := ⟨rfl, rfl, rfl, by decide +kernel, rfl, by decide +kernel, by decide +kernel⟩
abbrev s_l_some_parting : Stmt := top 33
abbrev N_l_some_parting : List Str := ["draws", "at", "kind"]
theorem sc_l_some_parting : FnScope N_l_some_parting ["draws", "at"] (defScope s_l_some_parting) := ⟨rfl, rfl, rfl, by decide +kernel, rfl, by decide +kernel, by decide +kernel⟩
abbrev s_l_least_factor : Stmt := top 34
abbrev N_l_least_factor : List Str := ["number", "factor"]
theorem sc_l_least_factor : FnScope N_l_least_factor ["number"] (defScope s_l_least_factor) := ⟨rfl, rfl, rfl, by decide +kernel, rfl, by decide +kernel, by decide +kernel⟩
abbrev s_l_great : Stmt := top 35
abbrev N_l_great : List Str := ["classes", "periods", "most", "offset", "period"]
theorem sc_l_great : FnScope N_l_great ["classes"] (defScope s_l_great) := ⟨rfl, rfl, rfl, by decide +kernel, rfl, by decide +kernel, by decide +kernel⟩
abbrev s_l_told : Stmt := top 36
abbrev N_l_told : List Str := ["classes", "passed", "due", "told"]
theorem sc_l_told : FnScope N_l_told ["classes"] (defScope s_l_told) := ⟨rfl, rfl, rfl, by decide +kernel, rfl, by decide +kernel, by decide +kernel⟩
abbrev s_l_fewer : Stmt := top 37
abbrev N_l_fewer : List Str := ["classes", "most", "count", "few", "kept", "one"]
theorem sc_l_fewer : FnScope N_l_fewer ["classes"] (defScope s_l_fewer) := ⟨rfl, rfl, rfl, by decide +kernel, rfl, by decide +kernel, by decide +kernel⟩
abbrev s_l_all : Stmt := top 38
abbrev N_l_all : List Str := ["n", "found", "stack", "turn", "classes", "free", "period", "day", "one"]
theorem sc_l_all : FnScope N_l_all ["n"] (defScope s_l_all) := ⟨rfl, rfl, rfl, by decide +kernel, rfl, by decide +kernel, by decide +kernel⟩
abbrev s_l_lines : Stmt := top 39
abbrev N_l_lines : List Str := ["draws", "many", "chain", "step", "k", "alike"]
theorem sc_l_lines : FnScope N_l_lines ["draws"] (defScope s_l_lines) := ⟨rfl, rfl, rfl, by decide +kernel, rfl, by decide +kernel, by decide +kernel⟩
abbrev s_law : Stmt := top 40
abbrev N_law : List Str := ["script", "draws", "classes", "more", "line", "kept", "n", "least", "drop", "fewer", "offset", "period"]
theorem sc_law : FnScope N_law ["script"] (defScope s_law) := ⟨rfl, rfl, rfl, by decide +kernel, rfl, by decide +kernel, by decide +kernel⟩
structure Bl (mg : Str → Option Value) : Prop where
  b_abs : mg "abs" = none
  b_bool : mg "bool" = none
  b_int : mg "int" = none
  b_isinstance : mg "isinstance" = none
  b_len : mg "len" = none
  b_list : mg "list" = none
  b_max : mg "max" = none
  b_range : mg "range" = none
  b_sorted : mg "sorted" = none
  b_sum : mg "sum" = none
  b_tuple : mg "tuple" = none
end My

namespace My
open PySem PySem.Spec PyProof.Rows L2 V3
section
variable {P : Program} {w : World} {K : Fg} {mg : Str → Option Value} {base : Heap} {f : Addr} {fd : FuncData}
def pre_p_is_number (ds : List PyData) (o : OT) : Prop := ∃ (value0 : Int), ds = [eI value0] ∧ o = .leaf (eB (true))
theorem ok_p_is_number {k : Nat} (F : Fd K "is_number" s_p_is_number f fd) (B : Bl mg) : FnOk P w K mg base CX0 (k + 1) f fd ["value"] (SpD K pre_p_is_number) := by
  refine fn_ok F sc_p_is_number (fun ds o h => by obtain ⟨value0, rfl, rfl⟩ := h; rfl) fun cdv A outer s H E hr ds o h => ?_
  obtain ⟨value0, rfl, rfl⟩ := h
  refine vk_cons (vs_ret (ve_andV (vi_int (vn 0).v B.b_isinstance B.b_int) (fun hq1 => (ve_one (ve_notV (vi_bool (vn 0).v B.b_isinstance B.b_bool))))) ?_)
  refine congrArg (fun z => OT.leaf (eB z)) (?_ : _ = _)
  first | done | rfl | omega | (simp_all; done) | (simp_all; omega) -- ret return isinstance(value, int) and (not isinstance(value, bool))
def pre_p_is_number_tuple (ds : List PyData) (o : OT) : Prop := ∃ (value0 : (Int × Int)) (width0 : Int), ds = [(e2 eI eI) value0, eI width0] ∧ (width0 = 2) ∧ o = .leaf (eB (true))
theorem ok_p_is_number_tuple {k : Nat} (F : Fd K "is_number_tuple" s_p_is_number_tuple f fd) (B : Bl mg) (C_p_is_number : Cal P w K mg base k "is_number" 1 (SpD K pre_p_is_number)) : FnOk P w K mg base CX0 (k + 1) f fd ["value", "width"] (SpD K pre_p_is_number_tuple) := by
  refine fn_ok F sc_p_is_number_tuple (fun ds o h => by obtain ⟨value0, width0, rfl, hpre, rfl⟩ := h; rfl) fun cdv A outer s H E hr ds o h => ?_
  obtain ⟨value0, width0, rfl, hpre, rfl⟩ := h
  refine vk_cons (vs_if (VW.tb (vw_or (vb_not (vb_val (vi_tuple (vn 0).v B.b_isinstance B.b_tuple))) (fun hq1 => (vw_or1 (vb_cmp (vc_neI (ve_lenT (vn 0).v B.b_len) (vn 1))))))) (fun hc0 => ?_) (fun hc0 => ?_))
  · skip
    try simp only [List.length_take, List.length_drop, List.length_append, parts_len, isInt_i, isInt_l, isInt_t, isBool_i, isBool_l, isBool_t, isList_i, isList_l, isList_t, isTup_i, isTup_l, isTup_t, isNone_n, isNone_i, isNone_l, isNone_t, Bool.not_true, Bool.not_false, Bool.true_and, Bool.and_true, Bool.false_or, Bool.or_false, List.length_map, List.length_cons, List.length_nil, decide_eq_true_eq, decide_eq_false_iff_not, Bool.and_eq_true, Bool.or_eq_true, Bool.and_eq_false_iff, Bool.or_eq_false_iff, Bool.not_eq_true', Bool.not_eq_false', Bool.not_eq_true, Bool.not_eq_false, bne_iff_ne, beq_iff_eq, ne_eq] at hc0
    refine vk_cons (vs_ret ve_bl ?_)
    refine congrArg (fun z => OT.leaf (eB z)) (?_ : _ = _)
    first | done | rfl | omega | (simp_all; done) | (simp_all; omega) -- ret return False
  · skip
    try simp only [List.length_take, List.length_drop, List.length_append, parts_len, isInt_i, isInt_l, isInt_t, isBool_i, isBool_l, isBool_t, isList_i, isList_l, isList_t, isTup_i, isTup_l, isTup_t, isNone_n, isNone_i, isNone_l, isNone_t, Bool.not_true, Bool.not_false, Bool.true_and, Bool.and_true, Bool.false_or, Bool.or_false, List.length_map, List.length_cons, List.length_nil, decide_eq_true_eq, decide_eq_false_iff_not, Bool.and_eq_true, Bool.or_eq_true, Bool.and_eq_false_iff, Bool.or_eq_false_iff, Bool.not_eq_true', Bool.not_eq_false', Bool.not_eq_true, Bool.not_eq_false, bne_iff_ne, beq_iff_eq, ne_eq] at hc0
    refine vk_nil ?_
    refine vk_cons (vs_forN (en := eI) 2 (fun (m0 : Nat) Γ => ∃ (s_item0 : Option OT), Γ = [some (.leaf ((e2 eI eI) value0)), some (.leaf (eI width0)), s_item0] ∧ (True)) (fun _ => (show VI _ _ _ _ ([value0.1, value0.2].map eI) from vi_tup (vn 0))) sc_p_is_number_tuple.nd ⟨none, rfl, ?_⟩ (fun m0 item0 _ hx0 hw => ?_) (fun _ hw => ?_))
    · skip
      trivial
    · obtain ⟨s_item0, rfl, _⟩ := hw
      refine vk_cons (vs_if (vb_not (vb_val (ve_call C_p_is_number hr (va_cons (vn 2) va_nil) ⟨_, rfl, rfl⟩))) (fun hc1 => ?_) (fun hc1 => ?_))
      · skip
        try simp only [List.length_take, List.length_drop, List.length_append, parts_len, isInt_i, isInt_l, isInt_t, isBool_i, isBool_l, isBool_t, isList_i, isList_l, isList_t, isTup_i, isTup_l, isTup_t, isNone_n, isNone_i, isNone_l, isNone_t, Bool.not_true, Bool.not_false, Bool.true_and, Bool.and_true, Bool.false_or, Bool.or_false, List.length_map, List.length_cons, List.length_nil, decide_eq_true_eq, decide_eq_false_iff_not, Bool.and_eq_true, Bool.or_eq_true, Bool.and_eq_false_iff, Bool.or_eq_false_iff, Bool.not_eq_true', Bool.not_eq_false', Bool.not_eq_true, Bool.not_eq_false, bne_iff_ne, beq_iff_eq, ne_eq] at hc1
        refine vk_cons (vs_ret ve_bl ?_)
        refine congrArg (fun z => OT.leaf (eB z)) (?_ : _ = _)
        first | done | rfl | omega | (simp_all; done) | (simp_all; omega) -- ret return False
      · skip
        try simp only [List.length_take, List.length_drop, List.length_append, parts_len, isInt_i, isInt_l, isInt_t, isBool_i, isBool_l, isBool_t, isList_i, isList_l, isList_t, isTup_i, isTup_l, isTup_t, isNone_n, isNone_i, isNone_l, isNone_t, Bool.not_true, Bool.not_false, Bool.true_and, Bool.and_true, Bool.false_or, Bool.or_false, List.length_map, List.length_cons, List.length_nil, decide_eq_true_eq, decide_eq_false_iff_not, Bool.and_eq_true, Bool.or_eq_true, Bool.and_eq_false_iff, Bool.or_eq_false_iff, Bool.not_eq_true', Bool.not_eq_false', Bool.not_eq_true, Bool.not_eq_false, bne_iff_ne, beq_iff_eq, ne_eq] at hc1
        refine vk_nil ?_
        refine vk_nil ⟨some (.leaf (eI item0)), rfl, ?_⟩
        trivial
    · obtain ⟨s_item0, rfl, _⟩ := hw
      refine vk_cons (vs_ret ve_bl ?_)
      refine congrArg (fun z => OT.leaf (eB z)) (?_ : _ = _)
      first | done | rfl | omega | (simp_all; done) | (simp_all; omega) -- ret return True
def pre_p_is_pair (ds : List PyData) (o : OT) : Prop := ∃ (value0 : (Int × Int)), ds = [(e2 eI eI) value0] ∧ o = .leaf (eB (true))
theorem ok_p_is_pair {k : Nat} (F : Fd K "is_pair" s_p_is_pair f fd) (B : Bl mg) (C_p_is_number_tuple : Cal P w K mg base k "is_number_tuple" 2 (SpD K pre_p_is_number_tuple)) : FnOk P w K mg base CX0 (k + 1) f fd ["value"] (SpD K pre_p_is_pair) := by
  refine fn_ok F sc_p_is_pair (fun ds o h => by obtain ⟨value0, rfl, rfl⟩ := h; rfl) fun cdv A outer s H E hr ds o h => ?_
  obtain ⟨value0, rfl, rfl⟩ := h
  refine vk_cons (vs_ret (ve_call C_p_is_number_tuple hr (va_cons (vn 0) (va_cons ve_int va_nil)) ⟨_, _, rfl, (by first | omega | assumption | (simp only [List.length_take, List.length_drop, List.length_append, parts_len, isInt_i, isInt_l, isInt_t, isBool_i, isBool_l, isBool_t, isList_i, isList_l, isList_t, isTup_i, isTup_l, isTup_t, isNone_n, isNone_i, isNone_l, isNone_t, Bool.not_true, Bool.not_false, Bool.true_and, Bool.and_true, Bool.false_or, Bool.or_false, List.length_map, List.length_cons, List.length_nil, decide_eq_true_eq, decide_eq_false_iff_not, Bool.and_eq_true, Bool.or_eq_true, Bool.and_eq_false_iff, Bool.or_eq_false_iff, Bool.not_eq_true', Bool.not_eq_false', Bool.not_eq_true, Bool.not_eq_false, bne_iff_ne, beq_iff_eq, ne_eq] at *; omega) | (simp; done) | (simp at *; omega)), rfl⟩) ?_)
  refine congrArg (fun z => OT.leaf (eB z)) (?_ : _ = _)
  first | done | rfl | omega | (simp_all; done) | (simp_all; omega) -- ret return is_number_tuple(value, 2)
def pre_p_common_divisor (ds : List PyData) (o : OT) : Prop := ∃ (first0 : Int) (second0 : Int), ds = [eI first0, eI second0] ∧ o = .leaf (eI ((Int.gcd first0 second0 : Int)))
theorem ok_p_common_divisor {k : Nat} (F : Fd K "common_divisor" s_p_common_divisor f fd) (B : Bl mg) : FnOk P w K mg base CX0 (k + 1) f fd ["first", "second"] (SpD K pre_p_common_divisor) := by
  refine fn_ok F sc_p_common_divisor (fun ds o h => by obtain ⟨first0, second0, rfl, rfl⟩ := h; rfl) fun cdv A outer s H E hr ds o h => ?_
  obtain ⟨first0, second0, rfl, rfl⟩ := h
  refine vk_cons (vs_setG 0 eI (ve_abs (vn 0) B.b_abs) sc_p_common_divisor.nd fun first1 h_first1 => ?_)
  refine vk_cons (vs_setG 1 eI (ve_abs (vn 1) B.b_abs) sc_p_common_divisor.nd fun second1 h_second1 => ?_)
  refine vk_cons (vs_while (fun (m0 : Nat) Γ => ∃ (first2 : Int) (second2 : Int), Γ = [some (.leaf (eI first2)), some (.leaf (eI second2))] ∧ m0 = second2.toNat ∧ (0 ≤ first2 ∧ 0 ≤ second2 ∧ Int.gcd first0 second0 = Int.gcd first2 second2)) ⟨_, first1, second1, rfl, rfl, ?_⟩ (fun m0 _ hw => ?_))
  · skip
    subst h_first1 h_second1
    refine ⟨by omega, by omega, ?_⟩
    split <;> split <;> simp
  · obtain ⟨first2, second2, rfl, rfl, ⟨hf, hs, hg⟩⟩ := hw
    refine ⟨_, (vb_cmp (vc_neI (vn 1) ve_int)), fun hc0 => ?_, fun hc0 => ?_⟩
    · skip
      try simp only [List.length_take, List.length_drop, List.length_append, parts_len, isInt_i, isInt_l, isInt_t, isBool_i, isBool_l, isBool_t, isList_i, isList_l, isList_t, isTup_i, isTup_l, isTup_t, isNone_n, isNone_i, isNone_l, isNone_t, Bool.not_true, Bool.not_false, Bool.true_and, Bool.and_true, Bool.false_or, Bool.or_false, List.length_map, List.length_cons, List.length_nil, decide_eq_true_eq, decide_eq_false_iff_not, Bool.and_eq_true, Bool.or_eq_true, Bool.and_eq_false_iff, Bool.or_eq_false_iff, Bool.not_eq_true', Bool.not_eq_false', Bool.not_eq_true, Bool.not_eq_false, bne_iff_ne, beq_iff_eq, ne_eq] at hc0
      refine vk_cons (vs_par2 0 1 eI eI sc_p_common_divisor.nd (vn 1) (ve_mod (vn 0) (vn 1) (by first | omega | assumption | (simp only [List.length_take, List.length_drop, List.length_append, parts_len, isInt_i, isInt_l, isInt_t, isBool_i, isBool_l, isBool_t, isList_i, isList_l, isList_t, isTup_i, isTup_l, isTup_t, isNone_n, isNone_i, isNone_l, isNone_t, Bool.not_true, Bool.not_false, Bool.true_and, Bool.and_true, Bool.false_or, Bool.or_false, List.length_map, List.length_cons, List.length_nil, decide_eq_true_eq, decide_eq_false_iff_not, Bool.and_eq_true, Bool.or_eq_true, Bool.and_eq_false_iff, Bool.or_eq_false_iff, Bool.not_eq_true', Bool.not_eq_false', Bool.not_eq_true, Bool.not_eq_false, bne_iff_ne, beq_iff_eq, ne_eq] at *; omega) | (simp; done) | (simp at *; omega))) fun first3 h_first3 second3 h_second3 => ?_)
      refine vk_nil ⟨_, ?_, first3, second3, rfl, rfl, ?_⟩
      · skip
        have := Int.emod_lt_of_pos first2 (show 0 < second2 by omega)
        have := Int.emod_nonneg first2 hc0
        omega
      · skip
        subst h_first3 h_second3
        refine ⟨hs, Int.emod_nonneg _ hc0, ?_⟩
        rw [hg, Int.emod_def, Int.gcd_sub_mul_left_right, Int.gcd_comm]
    · skip
      try simp only [List.length_take, List.length_drop, List.length_append, parts_len, isInt_i, isInt_l, isInt_t, isBool_i, isBool_l, isBool_t, isList_i, isList_l, isList_t, isTup_i, isTup_l, isTup_t, isNone_n, isNone_i, isNone_l, isNone_t, Bool.not_true, Bool.not_false, Bool.true_and, Bool.and_true, Bool.false_or, Bool.or_false, List.length_map, List.length_cons, List.length_nil, decide_eq_true_eq, decide_eq_false_iff_not, Bool.and_eq_true, Bool.or_eq_true, Bool.and_eq_false_iff, Bool.or_eq_false_iff, Bool.not_eq_true', Bool.not_eq_false', Bool.not_eq_true, Bool.not_eq_false, bne_iff_ne, beq_iff_eq, ne_eq] at hc0
      refine vk_cons (vs_ret (vn 0) ?_)
      refine congrArg (fun z => OT.leaf (eI z)) (?_ : _ = _)
      have hz : second2 = 0 := by omega
      subst hz
      rw [hg]
      simp
      omega
def pre_p_is_class (ds : List PyData) (o : OT) : Prop := ∃ (value0 : (Int × Int)), ds = [(e2 eI eI) value0] ∧ (Ok value0) ∧ o = .leaf (eB (true))
theorem ok_p_is_class {k : Nat} (F : Fd K "is_class" s_p_is_class f fd) (B : Bl mg) (C_p_is_pair : Cal P w K mg base k "is_pair" 1 (SpD K pre_p_is_pair)) : FnOk P w K mg base CX0 (k + 1) f fd ["value"] (SpD K pre_p_is_class) := by
  refine fn_ok F sc_p_is_class (fun ds o h => by obtain ⟨value0, rfl, hpre, rfl⟩ := h; rfl) fun cdv A outer s H E hr ds o h => ?_
  obtain ⟨value0, rfl, hpre, rfl⟩ := h
  refine vk_cons (vs_ret (ve_andV (ve_call C_p_is_pair hr (va_cons (vn 0) va_nil) ⟨_, rfl, rfl⟩) (fun hq3 => (ve_andV (ve_cmp (vc_ge (vsnd (vn 0) ve_int) ve_int)) (fun hq2 => (ve_one (ve_chain op_le op_lt rfl rfl ve_int (vfst (vn 0) ve_int) (fun hq1 => (vsnd (vn 0) ve_int)))))))) ?_)
  refine congrArg (fun z => OT.leaf (eB z)) (?_ : _ = _)
  obtain ⟨a, b, c⟩ := hpre
  simp [a, b, c]
def pre_p_is_class_list (ds : List PyData) (o : OT) : Prop := ∃ (value0 : List (Int × Int)), ds = [(eL (e2 eI eI)) value0] ∧ (value0 ≠ [] ∧ value0.length < 100000 ∧ (∀ p ∈ value0, Ok p) ∧ Srt value0) ∧ o = .leaf (eB (true))
theorem ok_p_is_class_list {k : Nat} (F : Fd K "is_class_list" s_p_is_class_list f fd) (B : Bl mg) (C_p_is_class : Cal P w K mg base k "is_class" 1 (SpD K pre_p_is_class)) : FnOk P w K mg base CX0 (k + 1) f fd ["value"] (SpD K pre_p_is_class_list) := by
  refine fn_ok F sc_p_is_class_list (fun ds o h => by obtain ⟨value0, rfl, ⟨hne, hz, hok, hs⟩, rfl⟩ := h; rfl) fun cdv A outer s H E hr ds o h => ?_
  obtain ⟨value0, rfl, ⟨hne, hz, hok, hs⟩, rfl⟩ := h
  have hgm : ∀ i : Int, 0 ≤ i ∧ i.toNat < value0.length → Ok (value0.getD i.toNat (0, 0)) := fun i hi => hok _ (getD_mem hi.2 _)
  refine vk_cons (vs_if (VW.tb (vw_or (vb_not (vb_val (vi_lst (vn 0).v B.b_isinstance B.b_list))) (fun hq1 => (vw_or1 (vb_cmp (vc_eqI (vlenE (vn 0).lsE B.b_len) ve_int)))))) (fun hc0 => ?_) (fun hc0 => ?_))
  · skip
    try simp only [List.length_take, List.length_drop, List.length_append, parts_len, isInt_i, isInt_l, isInt_t, isBool_i, isBool_l, isBool_t, isList_i, isList_l, isList_t, isTup_i, isTup_l, isTup_t, isNone_n, isNone_i, isNone_l, isNone_t, Bool.not_true, Bool.not_false, Bool.true_and, Bool.and_true, Bool.false_or, Bool.or_false, List.length_map, List.length_cons, List.length_nil, decide_eq_true_eq, decide_eq_false_iff_not, Bool.and_eq_true, Bool.or_eq_true, Bool.and_eq_false_iff, Bool.or_eq_false_iff, Bool.not_eq_true', Bool.not_eq_false', Bool.not_eq_true, Bool.not_eq_false, bne_iff_ne, beq_iff_eq, ne_eq] at hc0
    refine vk_cons (vs_ret ve_bl ?_)
    refine congrArg (fun z => OT.leaf (eB z)) (?_ : _ = _)
    simp_all
  · skip
    try simp only [List.length_take, List.length_drop, List.length_append, parts_len, isInt_i, isInt_l, isInt_t, isBool_i, isBool_l, isBool_t, isList_i, isList_l, isList_t, isTup_i, isTup_l, isTup_t, isNone_n, isNone_i, isNone_l, isNone_t, Bool.not_true, Bool.not_false, Bool.true_and, Bool.and_true, Bool.false_or, Bool.or_false, List.length_map, List.length_cons, List.length_nil, decide_eq_true_eq, decide_eq_false_iff_not, Bool.and_eq_true, Bool.or_eq_true, Bool.and_eq_false_iff, Bool.or_eq_false_iff, Bool.not_eq_true', Bool.not_eq_false', Bool.not_eq_true, Bool.not_eq_false, bne_iff_ne, beq_iff_eq, ne_eq] at hc0
    refine vk_nil ?_
    refine vk_cons (vs_forR 1 (fun (m0 : Nat) Γ => ∃ (s_at0 : Option OT), Γ = [some (.leaf ((eL (e2 eI eI)) value0)), s_at0] ∧ (True)) (fun _ => (vi_rng1 (vlenE (vn 0).lsE B.b_len) (by first | omega | assumption | (simp only [List.length_take, List.length_drop, List.length_append, parts_len, isInt_i, isInt_l, isInt_t, isBool_i, isBool_l, isBool_t, isList_i, isList_l, isList_t, isTup_i, isTup_l, isTup_t, isNone_n, isNone_i, isNone_l, isNone_t, Bool.not_true, Bool.not_false, Bool.true_and, Bool.and_true, Bool.false_or, Bool.or_false, List.length_map, List.length_cons, List.length_nil, decide_eq_true_eq, decide_eq_false_iff_not, Bool.and_eq_true, Bool.or_eq_true, Bool.and_eq_false_iff, Bool.or_eq_false_iff, Bool.not_eq_true', Bool.not_eq_false', Bool.not_eq_true, Bool.not_eq_false, bne_iff_ne, beq_iff_eq, ne_eq] at *; omega) | (simp; done) | (simp at *; omega)) B.b_range)) sc_p_is_class_list.nd ⟨none, rfl, ?_⟩ (fun m0 at0 _ hx0 hw0 hw => ?_) (fun _ hw => ?_))
    · skip
      trivial
    · obtain ⟨s_at0, rfl, _⟩ := hw
      refine vk_cons (vs_if (vb_not (vb_val (ve_call C_p_is_class hr (va_cons (vixE ((0 : Int), (0 : Int)) (vn 0).lsE (vn 1) (by first | omega | assumption | (simp only [List.length_take, List.length_drop, List.length_append, parts_len, isInt_i, isInt_l, isInt_t, isBool_i, isBool_l, isBool_t, isList_i, isList_l, isList_t, isTup_i, isTup_l, isTup_t, isNone_n, isNone_i, isNone_l, isNone_t, Bool.not_true, Bool.not_false, Bool.true_and, Bool.and_true, Bool.false_or, Bool.or_false, List.length_map, List.length_cons, List.length_nil, decide_eq_true_eq, decide_eq_false_iff_not, Bool.and_eq_true, Bool.or_eq_true, Bool.and_eq_false_iff, Bool.or_eq_false_iff, Bool.not_eq_true', Bool.not_eq_false', Bool.not_eq_true, Bool.not_eq_false, bne_iff_ne, beq_iff_eq, ne_eq] at *; omega) | (simp; done) | (simp at *; omega))) va_nil) ⟨_, rfl, (hgm _ ⟨by omega, by omega⟩), rfl⟩))) (fun hc1 => ?_) (fun hc1 => ?_))
      · skip
        try simp only [List.length_take, List.length_drop, List.length_append, parts_len, isInt_i, isInt_l, isInt_t, isBool_i, isBool_l, isBool_t, isList_i, isList_l, isList_t, isTup_i, isTup_l, isTup_t, isNone_n, isNone_i, isNone_l, isNone_t, Bool.not_true, Bool.not_false, Bool.true_and, Bool.and_true, Bool.false_or, Bool.or_false, List.length_map, List.length_cons, List.length_nil, decide_eq_true_eq, decide_eq_false_iff_not, Bool.and_eq_true, Bool.or_eq_true, Bool.and_eq_false_iff, Bool.or_eq_false_iff, Bool.not_eq_true', Bool.not_eq_false', Bool.not_eq_true, Bool.not_eq_false, bne_iff_ne, beq_iff_eq, ne_eq] at hc1
        refine vk_cons (vs_ret ve_bl ?_)
        refine congrArg (fun z => OT.leaf (eB z)) (?_ : _ = _)
        simp_all
      · skip
        try simp only [List.length_take, List.length_drop, List.length_append, parts_len, isInt_i, isInt_l, isInt_t, isBool_i, isBool_l, isBool_t, isList_i, isList_l, isList_t, isTup_i, isTup_l, isTup_t, isNone_n, isNone_i, isNone_l, isNone_t, Bool.not_true, Bool.not_false, Bool.true_and, Bool.and_true, Bool.false_or, Bool.or_false, List.length_map, List.length_cons, List.length_nil, decide_eq_true_eq, decide_eq_false_iff_not, Bool.and_eq_true, Bool.or_eq_true, Bool.and_eq_false_iff, Bool.or_eq_false_iff, Bool.not_eq_true', Bool.not_eq_false', Bool.not_eq_true, Bool.not_eq_false, bne_iff_ne, beq_iff_eq, ne_eq] at hc1
        refine vk_nil ?_
        refine vk_cons (vs_if (VW.tb (vw_and (vb_cmp (vc_gt (vn 1) ve_int)) (fun hq2 => (vw_and1 (vb_cmp (vc_leP (roomy hr) (vixE ((0 : Int), (0 : Int)) (vn 0).lsE (vn 1) (by first | omega | assumption | (simp only [List.length_take, List.length_drop, List.length_append, parts_len, isInt_i, isInt_l, isInt_t, isBool_i, isBool_l, isBool_t, isList_i, isList_l, isList_t, isTup_i, isTup_l, isTup_t, isNone_n, isNone_i, isNone_l, isNone_t, Bool.not_true, Bool.not_false, Bool.true_and, Bool.and_true, Bool.false_or, Bool.or_false, List.length_map, List.length_cons, List.length_nil, decide_eq_true_eq, decide_eq_false_iff_not, Bool.and_eq_true, Bool.or_eq_true, Bool.and_eq_false_iff, Bool.or_eq_false_iff, Bool.not_eq_true', Bool.not_eq_false', Bool.not_eq_true, Bool.not_eq_false, bne_iff_ne, beq_iff_eq, ne_eq] at *; omega) | (simp; done) | (simp at *; omega))).v (vixE ((0 : Int), (0 : Int)) (vn 0).lsE (ve_sub (vn 1) ve_int) (by first | omega | assumption | (simp only [List.length_take, List.length_drop, List.length_append, parts_len, isInt_i, isInt_l, isInt_t, isBool_i, isBool_l, isBool_t, isList_i, isList_l, isList_t, isTup_i, isTup_l, isTup_t, isNone_n, isNone_i, isNone_l, isNone_t, Bool.not_true, Bool.not_false, Bool.true_and, Bool.and_true, Bool.false_or, Bool.or_false, List.length_map, List.length_cons, List.length_nil, decide_eq_true_eq, decide_eq_false_iff_not, Bool.and_eq_true, Bool.or_eq_true, Bool.and_eq_false_iff, Bool.or_eq_false_iff, Bool.not_eq_true', Bool.not_eq_false', Bool.not_eq_true, Bool.not_eq_false, bne_iff_ne, beq_iff_eq, ne_eq] at *; omega) | (simp; done) | (simp at *; omega))).v)))))) (fun hc2 => ?_) (fun hc2 => ?_))
        · skip
          try simp only [List.length_take, List.length_drop, List.length_append, parts_len, isInt_i, isInt_l, isInt_t, isBool_i, isBool_l, isBool_t, isList_i, isList_l, isList_t, isTup_i, isTup_l, isTup_t, isNone_n, isNone_i, isNone_l, isNone_t, Bool.not_true, Bool.not_false, Bool.true_and, Bool.and_true, Bool.false_or, Bool.or_false, List.length_map, List.length_cons, List.length_nil, decide_eq_true_eq, decide_eq_false_iff_not, Bool.and_eq_true, Bool.or_eq_true, Bool.and_eq_false_iff, Bool.or_eq_false_iff, Bool.not_eq_true', Bool.not_eq_false', Bool.not_eq_true, Bool.not_eq_false, bne_iff_ne, beq_iff_eq, ne_eq] at hc2
          refine vk_cons (vs_ret ve_bl ?_)
          refine congrArg (fun z => OT.leaf (eB z)) (?_ : _ = _)
          have := hs.at (i := at0.toNat) (by omega) (by omega) (0, 0)
          have e : (at0 - 1).toNat = at0.toNat - 1 := by omega
          simp_all
        · skip
          try simp only [List.length_take, List.length_drop, List.length_append, parts_len, isInt_i, isInt_l, isInt_t, isBool_i, isBool_l, isBool_t, isList_i, isList_l, isList_t, isTup_i, isTup_l, isTup_t, isNone_n, isNone_i, isNone_l, isNone_t, Bool.not_true, Bool.not_false, Bool.true_and, Bool.and_true, Bool.false_or, Bool.or_false, List.length_map, List.length_cons, List.length_nil, decide_eq_true_eq, decide_eq_false_iff_not, Bool.and_eq_true, Bool.or_eq_true, Bool.and_eq_false_iff, Bool.or_eq_false_iff, Bool.not_eq_true', Bool.not_eq_false', Bool.not_eq_true, Bool.not_eq_false, bne_iff_ne, beq_iff_eq, ne_eq] at hc2
          refine vk_nil ?_
          refine vk_nil ⟨some (.leaf (eI at0)), rfl, ?_⟩
          trivial
    · obtain ⟨s_at0, rfl, _⟩ := hw
      refine vk_cons (vs_ret ve_bl ?_)
      refine congrArg (fun z => OT.leaf (eB z)) (?_ : _ = _)
      first | done | rfl | omega | (simp_all; done) | (simp_all; omega) -- ret return True
def pre_p_do_meet (ds : List PyData) (o : OT) : Prop := ∃ (first0 : (Int × Int)) (second0 : (Int × Int)), ds = [(e2 eI eI) first0, (e2 eI eI) second0] ∧ (0 < first0.2 ∧ 0 < second0.2) ∧ o = .leaf (eB (meetB first0 second0))
theorem ok_p_do_meet {k : Nat} (F : Fd K "do_meet" s_p_do_meet f fd) (B : Bl mg) (C_p_common_divisor : Cal P w K mg base k "common_divisor" 2 (SpD K pre_p_common_divisor)) : FnOk P w K mg base CX0 (k + 1) f fd ["first", "second"] (SpD K pre_p_do_meet) := by
  refine fn_ok F sc_p_do_meet (fun ds o h => by obtain ⟨first0, second0, rfl, hpre, rfl⟩ := h; rfl) fun cdv A outer s H E hr ds o h => ?_
  obtain ⟨first0, second0, rfl, hpre, rfl⟩ := h
  have hgp : 0 < ((Int.gcd first0.2 second0.2 : Nat) : Int) := by have := Int.gcd_pos_of_ne_zero_left second0.2 (show first0.2 ≠ 0 by omega); omega
  refine vk_cons (vs_ret (ve_cmp (vc_eqI (ve_mod (ve_sub (vfst (vn 0) ve_int) (vfst (vn 1) ve_int)) (ve_call C_p_common_divisor hr (va_cons (vsnd (vn 0) ve_int) (va_cons (vsnd (vn 1) ve_int) va_nil)) ⟨_, _, rfl, rfl⟩) (by first | omega | assumption | (simp only [List.length_take, List.length_drop, List.length_append, parts_len, isInt_i, isInt_l, isInt_t, isBool_i, isBool_l, isBool_t, isList_i, isList_l, isList_t, isTup_i, isTup_l, isTup_t, isNone_n, isNone_i, isNone_l, isNone_t, Bool.not_true, Bool.not_false, Bool.true_and, Bool.and_true, Bool.false_or, Bool.or_false, List.length_map, List.length_cons, List.length_nil, decide_eq_true_eq, decide_eq_false_iff_not, Bool.and_eq_true, Bool.or_eq_true, Bool.and_eq_false_iff, Bool.or_eq_false_iff, Bool.not_eq_true', Bool.not_eq_false', Bool.not_eq_true, Bool.not_eq_false, bne_iff_ne, beq_iff_eq, ne_eq] at *; omega) | (simp; done) | (simp at *; omega))) ve_int)) ?_)
  refine congrArg (fun z => OT.leaf (eB z)) (?_ : _ = _)
  first | done | rfl | omega | (simp_all; done) | (simp_all; omega) -- ret return (first[0] - second[0]) % common_divisor(first[1], second[1]) == 0
def pre_p_first_meeting (ds : List PyData) (o : OT) : Prop := ∃ (classes0 : List (Int × Int)), ds = [(eL (e2 eI eI)) classes0] ∧ ((∀ p ∈ classes0, Ok p) ∧ (classes0.Pairwise fun p q => meetB p q = false) ∧ classes0.length < 100000 ∧ (∀ p ∈ classes0, p.2 < 10000000000000)) ∧ o = .leaf (eD (PyData.none))
theorem ok_p_first_meeting {k : Nat} (F : Fd K "first_meeting" s_p_first_meeting f fd) (B : Bl mg) (C_p_do_meet : Cal P w K mg base k "do_meet" 2 (SpD K pre_p_do_meet)) : FnOk P w K mg base CX0 (k + 1) f fd ["classes"] (SpD K pre_p_first_meeting) := by
  refine fn_ok F sc_p_first_meeting (fun ds o h => by obtain ⟨classes0, rfl, ⟨hok, hap0, hz, hb⟩, rfl⟩ := h; rfl) fun cdv A outer s H E hr ds o h => ?_
  obtain ⟨classes0, rfl, ⟨hok, hap0, hz, hb⟩, rfl⟩ := h
  have hap : ∀ i j : Int, 0 ≤ i → i < j → j.toNat < classes0.length → meetB (classes0.getD i.toNat (0, 0)) (classes0.getD j.toNat (0, 0)) = false := fun i j h0 h1 h2 => apart_at hap0 h0 h1 h2
  have hpo : ∀ i : Int, i.toNat < classes0.length → 0 < (classes0.getD i.toNat (0, 0)).2 := fun i hi => by have := (hok _ (getD_mem hi (0, 0))).1; omega
  refine vk_cons (vs_forR 1 (fun (m0 : Nat) Γ => ∃ (s_first0 : Option OT) (s_second0 : Option OT), Γ = [some (.leaf ((eL (e2 eI eI)) classes0)), s_first0, s_second0] ∧ (True)) (fun _ => (vi_rng1 (vlenE (vn 0).lsE B.b_len) (by first | omega | assumption | (simp only [List.length_take, List.length_drop, List.length_append, parts_len, isInt_i, isInt_l, isInt_t, isBool_i, isBool_l, isBool_t, isList_i, isList_l, isList_t, isTup_i, isTup_l, isTup_t, isNone_n, isNone_i, isNone_l, isNone_t, Bool.not_true, Bool.not_false, Bool.true_and, Bool.and_true, Bool.false_or, Bool.or_false, List.length_map, List.length_cons, List.length_nil, decide_eq_true_eq, decide_eq_false_iff_not, Bool.and_eq_true, Bool.or_eq_true, Bool.and_eq_false_iff, Bool.or_eq_false_iff, Bool.not_eq_true', Bool.not_eq_false', Bool.not_eq_true, Bool.not_eq_false, bne_iff_ne, beq_iff_eq, ne_eq] at *; omega) | (simp; done) | (simp at *; omega)) B.b_range)) sc_p_first_meeting.nd ⟨none, none, rfl, ?_⟩ (fun m0 first0 _ hx0 hw0 hw => ?_) (fun _ hw => ?_))
  · skip
    trivial
  · obtain ⟨s_first0, s_second0, rfl, _⟩ := hw
    refine vk_cons (vs_forR 2 (fun (m1 : Nat) Γ => ∃ (s_second1 : Option OT), Γ = [some (.leaf ((eL (e2 eI eI)) classes0)), some (.leaf (eI first0)), s_second1] ∧ (True)) (fun _ => (vi_rng2 (ve_add (vn 1) ve_int) (vlenE (vn 0).lsE B.b_len) (by first | omega | assumption | (simp only [List.length_take, List.length_drop, List.length_append, parts_len, isInt_i, isInt_l, isInt_t, isBool_i, isBool_l, isBool_t, isList_i, isList_l, isList_t, isTup_i, isTup_l, isTup_t, isNone_n, isNone_i, isNone_l, isNone_t, Bool.not_true, Bool.not_false, Bool.true_and, Bool.and_true, Bool.false_or, Bool.or_false, List.length_map, List.length_cons, List.length_nil, decide_eq_true_eq, decide_eq_false_iff_not, Bool.and_eq_true, Bool.or_eq_true, Bool.and_eq_false_iff, Bool.or_eq_false_iff, Bool.not_eq_true', Bool.not_eq_false', Bool.not_eq_true, Bool.not_eq_false, bne_iff_ne, beq_iff_eq, ne_eq] at *; omega) | (simp; done) | (simp at *; omega)) B.b_range)) sc_p_first_meeting.nd ⟨s_second0, rfl, ?_⟩ (fun m1 second0 _ hx1 hw1 hw => ?_) (fun _ hw => ?_))
    · skip
      trivial
    · obtain ⟨s_second1, rfl, _⟩ := hw
      refine vk_cons (vs_if (vb_val (ve_call C_p_do_meet hr (va_cons (vixE ((0 : Int), (0 : Int)) (vn 0).lsE (vn 1) (by first | omega | assumption | (simp only [List.length_take, List.length_drop, List.length_append, parts_len, isInt_i, isInt_l, isInt_t, isBool_i, isBool_l, isBool_t, isList_i, isList_l, isList_t, isTup_i, isTup_l, isTup_t, isNone_n, isNone_i, isNone_l, isNone_t, Bool.not_true, Bool.not_false, Bool.true_and, Bool.and_true, Bool.false_or, Bool.or_false, List.length_map, List.length_cons, List.length_nil, decide_eq_true_eq, decide_eq_false_iff_not, Bool.and_eq_true, Bool.or_eq_true, Bool.and_eq_false_iff, Bool.or_eq_false_iff, Bool.not_eq_true', Bool.not_eq_false', Bool.not_eq_true, Bool.not_eq_false, bne_iff_ne, beq_iff_eq, ne_eq] at *; omega) | (simp; done) | (simp at *; omega))) (va_cons (vixE ((0 : Int), (0 : Int)) (vn 0).lsE (vn 2) (by first | omega | assumption | (simp only [List.length_take, List.length_drop, List.length_append, parts_len, isInt_i, isInt_l, isInt_t, isBool_i, isBool_l, isBool_t, isList_i, isList_l, isList_t, isTup_i, isTup_l, isTup_t, isNone_n, isNone_i, isNone_l, isNone_t, Bool.not_true, Bool.not_false, Bool.true_and, Bool.and_true, Bool.false_or, Bool.or_false, List.length_map, List.length_cons, List.length_nil, decide_eq_true_eq, decide_eq_false_iff_not, Bool.and_eq_true, Bool.or_eq_true, Bool.and_eq_false_iff, Bool.or_eq_false_iff, Bool.not_eq_true', Bool.not_eq_false', Bool.not_eq_true, Bool.not_eq_false, bne_iff_ne, beq_iff_eq, ne_eq] at *; omega) | (simp; done) | (simp at *; omega))) va_nil)) ⟨_, _, rfl, ⟨hpo _ (by omega), hpo _ (by omega)⟩, rfl⟩)) (fun hc0 => ?_) (fun hc0 => ?_))
      · skip
        try simp only [List.length_take, List.length_drop, List.length_append, parts_len, isInt_i, isInt_l, isInt_t, isBool_i, isBool_l, isBool_t, isList_i, isList_l, isList_t, isTup_i, isTup_l, isTup_t, isNone_n, isNone_i, isNone_l, isNone_t, Bool.not_true, Bool.not_false, Bool.true_and, Bool.and_true, Bool.false_or, Bool.or_false, List.length_map, List.length_cons, List.length_nil, decide_eq_true_eq, decide_eq_false_iff_not, Bool.and_eq_true, Bool.or_eq_true, Bool.and_eq_false_iff, Bool.or_eq_false_iff, Bool.not_eq_true', Bool.not_eq_false', Bool.not_eq_true, Bool.not_eq_false, bne_iff_ne, beq_iff_eq, ne_eq] at hc0
        refine vk_cons (vs_ret (vtup2 (ea := eI) (eb := eI) (vn 1) (vn 2)) ?_)
        refine congrArg (fun z => OT.leaf (eD z)) (?_ : _ = _)
        have := hap first0 second0 (by omega) (by omega) (by omega)
        simp_all
      · skip
        try simp only [List.length_take, List.length_drop, List.length_append, parts_len, isInt_i, isInt_l, isInt_t, isBool_i, isBool_l, isBool_t, isList_i, isList_l, isList_t, isTup_i, isTup_l, isTup_t, isNone_n, isNone_i, isNone_l, isNone_t, Bool.not_true, Bool.not_false, Bool.true_and, Bool.and_true, Bool.false_or, Bool.or_false, List.length_map, List.length_cons, List.length_nil, decide_eq_true_eq, decide_eq_false_iff_not, Bool.and_eq_true, Bool.or_eq_true, Bool.and_eq_false_iff, Bool.or_eq_false_iff, Bool.not_eq_true', Bool.not_eq_false', Bool.not_eq_true, Bool.not_eq_false, bne_iff_ne, beq_iff_eq, ne_eq] at hc0
        refine vk_nil ?_
        refine vk_nil ⟨some (.leaf (eI second0)), rfl, ?_⟩
        trivial
    · obtain ⟨s_second1, rfl, _⟩ := hw
      refine vk_nil ⟨some (.leaf (eI first0)), s_second1, rfl, ?_⟩
      trivial
  · obtain ⟨s_first0, s_second0, rfl, _⟩ := hw
    refine vk_cons (vs_ret ve_non ?_)
    refine congrArg (fun z => OT.leaf (eD z)) (?_ : _ = _)
    rfl
def pre_p_common_round (ds : List PyData) (o : OT) : Prop := ∃ (classes0 : List (Int × Int)), ds = [(eL (e2 eI eI)) classes0] ∧ (∀ p ∈ classes0, Ok p ∧ p.2 < 10000000000000) ∧ o = .leaf (eI (rnd classes0))
theorem ok_p_common_round {k : Nat} (F : Fd K "common_round" s_p_common_round f fd) (B : Bl mg) (C_p_common_divisor : Cal P w K mg base k "common_divisor" 2 (SpD K pre_p_common_divisor)) : FnOk P w K mg base CX0 (k + 1) f fd ["classes"] (SpD K pre_p_common_round) := by
  refine fn_ok F sc_p_common_round (fun ds o h => by obtain ⟨classes0, rfl, hpre, rfl⟩ := h; rfl) fun cdv A outer s H E hr ds o h => ?_
  obtain ⟨classes0, rfl, hpre, rfl⟩ := h
  refine vk_cons (vs_setG 1 eI ve_int sc_p_common_round.nd fun total0 h_total0 => ?_)
  refine vk_cons (vs_for2 2 3 (fun (m0 : Nat) Γ => ∃ (total1 : Int) (s_offset0 : Option OT) (s_period0 : Option OT), Γ = [some (.leaf ((eL (e2 eI eI)) classes0)), some (.leaf (eI total1)), s_offset0, s_period0] ∧ (total1 = (classes0.take m0).foldl lcmF 1 ∧ 0 < total1)) (fun _ => (vi_list (vn 0))) sc_p_common_round.nd (na_cons 2 (na_cons 3 na_nil)) ⟨total0, none, none, rfl, ?_⟩ (fun m0 offset0 period0 _ hx0 hw => ?_) (fun _ hw => ?_))
  · skip
    subst h_total0
    exact ⟨rfl, by decide⟩
  · obtain ⟨total1, s_offset0, s_period0, rfl, ⟨ht, hq⟩⟩ := hw
    obtain ⟨⟨o1, o2, o3⟩, o4⟩ := hpre _ (List.mem_of_getElem? hx0)
    simp only at o1 o2 o3 o4
    have hgp : 0 < ((Int.gcd total1 period0 : Nat) : Int) := by have := Int.gcd_pos_of_ne_zero_left period0 (show total1 ≠ 0 by omega); omega
    have hgl : ((Int.gcd total1 period0 : Nat) : Int) ≤ period0 := Int.le_of_dvd (by omega) (Int.gcd_dvd_right _ _)
    refine vk_cons (vs_setG 1 eI (ve_mulS (ve_fdivB (vn 1) (ve_call C_p_common_divisor hr (va_cons (vn 1) (va_cons (vn 3) va_nil)) ⟨_, _, rfl, rfl⟩) (by first | omega | assumption | (simp only [List.length_take, List.length_drop, List.length_append, parts_len, isInt_i, isInt_l, isInt_t, isBool_i, isBool_l, isBool_t, isList_i, isList_l, isList_t, isTup_i, isTup_l, isTup_t, isNone_n, isNone_i, isNone_l, isNone_t, Bool.not_true, Bool.not_false, Bool.true_and, Bool.and_true, Bool.false_or, Bool.or_false, List.length_map, List.length_cons, List.length_nil, decide_eq_true_eq, decide_eq_false_iff_not, Bool.and_eq_true, Bool.or_eq_true, Bool.and_eq_false_iff, Bool.or_eq_false_iff, Bool.not_eq_true', Bool.not_eq_false', Bool.not_eq_true, Bool.not_eq_false, bne_iff_ne, beq_iff_eq, ne_eq] at *; omega) | (simp; done) | (simp at *; omega))) (vn 3) (by first | omega | assumption | (simp only [List.length_take, List.length_drop, List.length_append, parts_len, isInt_i, isInt_l, isInt_t, isBool_i, isBool_l, isBool_t, isList_i, isList_l, isList_t, isTup_i, isTup_l, isTup_t, isNone_n, isNone_i, isNone_l, isNone_t, Bool.not_true, Bool.not_false, Bool.true_and, Bool.and_true, Bool.false_or, Bool.or_false, List.length_map, List.length_cons, List.length_nil, decide_eq_true_eq, decide_eq_false_iff_not, Bool.and_eq_true, Bool.or_eq_true, Bool.and_eq_false_iff, Bool.or_eq_false_iff, Bool.not_eq_true', Bool.not_eq_false', Bool.not_eq_true, Bool.not_eq_false, bne_iff_ne, beq_iff_eq, ne_eq] at *; omega) | (simp; done) | (simp at *; omega))) sc_p_common_round.nd fun total2 h_total2 => ?_)
    refine vk_nil ⟨total2, some (.leaf (eI offset0)), some (.leaf (eI period0)), rfl, ?_⟩
    have hl := lcmF_facts (t := total1) (p := (offset0, period0)) hq o1
    have e : total2 = lcmF total1 (offset0, period0) := by rw [h_total2]; first | rfl | exact rnd_alt (p := (offset0, period0))
    rw [e]
    exact ⟨by rw [take_succ_of hx0, List.foldl_append, ← ht]; rfl, hl.1⟩
  · obtain ⟨total1, s_offset0, s_period0, rfl, ⟨ht, hq⟩⟩ := hw
    refine vk_cons (vs_ret (vn 1) ?_)
    refine congrArg (fun z => OT.leaf (eI z)) (?_ : _ = _)
    rw [ht, List.take_length]
    rfl
def pre_p_shares_fill (ds : List PyData) (o : OT) : Prop := ∃ (classes0 : List (Int × Int)), ds = [(eL (e2 eI eI)) classes0] ∧ ((∀ p ∈ classes0, Ok p ∧ p.2 < 10000000000000) ∧ classes0.length < 100000) ∧ o = .leaf (eB (fillB classes0))
theorem ok_p_shares_fill {k : Nat} (F : Fd K "shares_fill" s_p_shares_fill f fd) (B : Bl mg) (C_p_common_round : Cal P w K mg base k "common_round" 1 (SpD K pre_p_common_round)) : FnOk P w K mg base CX0 (k + 1) f fd ["classes"] (SpD K pre_p_shares_fill) := by
  refine fn_ok F sc_p_shares_fill (fun ds o h => by obtain ⟨classes0, rfl, ⟨hpp, hz⟩, rfl⟩ := h; rfl) fun cdv A outer s H E hr ds o h => ?_
  obtain ⟨classes0, rfl, ⟨hpp, hz⟩, rfl⟩ := h
  refine vk_cons (vs_setG 1 eI (ve_call C_p_common_round hr (va_cons (vn 0) va_nil) ⟨_, rfl, (by first | omega | assumption | (simp only [List.length_take, List.length_drop, List.length_append, parts_len, isInt_i, isInt_l, isInt_t, isBool_i, isBool_l, isBool_t, isList_i, isList_l, isList_t, isTup_i, isTup_l, isTup_t, isNone_n, isNone_i, isNone_l, isNone_t, Bool.not_true, Bool.not_false, Bool.true_and, Bool.and_true, Bool.false_or, Bool.or_false, List.length_map, List.length_cons, List.length_nil, decide_eq_true_eq, decide_eq_false_iff_not, Bool.and_eq_true, Bool.or_eq_true, Bool.and_eq_false_iff, Bool.or_eq_false_iff, Bool.not_eq_true', Bool.not_eq_false', Bool.not_eq_true, Bool.not_eq_false, bne_iff_ne, beq_iff_eq, ne_eq] at *; omega) | (simp; done) | (simp at *; omega)), rfl⟩) sc_p_shares_fill.nd fun total0 h_total0 => ?_)
  refine vk_cons (vs_ret (ve_cmp (vc_eqI (ve_sum rfl (vlcE [("offset", 2), ("period", 3)] (e2 eI eI) eI (vi_list (vn 0)).cc (no_cons (no_none rfl) (no_cons (no_none rfl) no_nil)) (fun _ _ _ _ _ => vg_tup rfl sc_p_shares_fill.nd (na_cons 2 (na_cons 3 na_nil))) (by simp) (by simp) (by omega) sc_p_shares_fill.nd (blkOk_by (show blkC N_p_shares_fill (defScope s_p_shares_fill) _ _ = true by decide +kernel)) (fun xa hxa => have o1 := (hpp _ hxa).1.1; have o2 := (hpp _ hxa).2; ⟨_, rfl, fun _ _ _ _ _ => ⟨vts_nil, fun hxp => (ve_fdivB (vn 1) (vn 3) (by first | omega | assumption | (simp only [List.length_take, List.length_drop, List.length_append, parts_len, isInt_i, isInt_l, isInt_t, isBool_i, isBool_l, isBool_t, isList_i, isList_l, isList_t, isTup_i, isTup_l, isTup_t, isNone_n, isNone_i, isNone_l, isNone_t, Bool.not_true, Bool.not_false, Bool.true_and, Bool.and_true, Bool.false_or, Bool.or_false, List.length_map, List.length_cons, List.length_nil, decide_eq_true_eq, decide_eq_false_iff_not, Bool.and_eq_true, Bool.or_eq_true, Bool.and_eq_false_iff, Bool.or_eq_false_iff, Bool.not_eq_true', Bool.not_eq_false', Bool.not_eq_true, Bool.not_eq_false, bne_iff_ne, beq_iff_eq, ne_eq] at *; omega) | (simp; done) | (simp at *; omega)))⟩⟩)).vl.vE B.b_sum) (vn 1))) ?_)
  refine congrArg (fun z => OT.leaf (eB z)) (?_ : _ = _)
  rw [filter_true]
  subst h_total0
  rfl
def pre_p_is_held (ds : List PyData) (o : OT) : Prop := ∃ (classes0 : List (Int × Int)) (day0 : Int), ds = [(eL (e2 eI eI)) classes0, eI day0] ∧ (∀ p ∈ classes0, Ok p) ∧ o = .leaf (eB (!decide (classes0.countP (hit day0) = 0)))
theorem ok_p_is_held {k : Nat} (F : Fd K "is_held" s_p_is_held f fd) (B : Bl mg) : FnOk P w K mg base CX0 (k + 1) f fd ["classes", "day"] (SpD K pre_p_is_held) := by
  refine fn_ok F sc_p_is_held (fun ds o h => by obtain ⟨classes0, day0, rfl, hpre, rfl⟩ := h; rfl) fun cdv A outer s H E hr ds o h => ?_
  obtain ⟨classes0, day0, rfl, hpre, rfl⟩ := h
  refine vk_cons (vs_for2 2 3 (fun (m0 : Nat) Γ => ∃ (s_offset0 : Option OT) (s_period0 : Option OT), Γ = [some (.leaf ((eL (e2 eI eI)) classes0)), some (.leaf (eI day0)), s_offset0, s_period0] ∧ (∀ q ∈ classes0.take m0, hit day0 q = false)) (fun _ => (vi_list (vn 0))) sc_p_is_held.nd (na_cons 2 (na_cons 3 na_nil)) ⟨none, none, rfl, ?_⟩ (fun m0 offset0 period0 _ hx0 hw => ?_) (fun _ hw => ?_))
  · skip
    intro q hq
    simp at hq
  · obtain ⟨s_offset0, s_period0, rfl, hi⟩ := hw
    have hq0 := List.mem_of_getElem? hx0
    have o := hpre _ hq0
    have o1 : 1 ≤ period0 := o.1
    refine vk_cons (vs_if (vb_cmp (vc_eqI (ve_mod (vn 1) (vn 3) (by first | omega | assumption | (simp only [List.length_take, List.length_drop, List.length_append, parts_len, isInt_i, isInt_l, isInt_t, isBool_i, isBool_l, isBool_t, isList_i, isList_l, isList_t, isTup_i, isTup_l, isTup_t, isNone_n, isNone_i, isNone_l, isNone_t, Bool.not_true, Bool.not_false, Bool.true_and, Bool.and_true, Bool.false_or, Bool.or_false, List.length_map, List.length_cons, List.length_nil, decide_eq_true_eq, decide_eq_false_iff_not, Bool.and_eq_true, Bool.or_eq_true, Bool.and_eq_false_iff, Bool.or_eq_false_iff, Bool.not_eq_true', Bool.not_eq_false', Bool.not_eq_true, Bool.not_eq_false, bne_iff_ne, beq_iff_eq, ne_eq] at *; omega) | (simp; done) | (simp at *; omega))) (vn 2))) (fun hc0 => ?_) (fun hc0 => ?_))
    · skip
      try simp only [List.length_take, List.length_drop, List.length_append, parts_len, isInt_i, isInt_l, isInt_t, isBool_i, isBool_l, isBool_t, isList_i, isList_l, isList_t, isTup_i, isTup_l, isTup_t, isNone_n, isNone_i, isNone_l, isNone_t, Bool.not_true, Bool.not_false, Bool.true_and, Bool.and_true, Bool.false_or, Bool.or_false, List.length_map, List.length_cons, List.length_nil, decide_eq_true_eq, decide_eq_false_iff_not, Bool.and_eq_true, Bool.or_eq_true, Bool.and_eq_false_iff, Bool.or_eq_false_iff, Bool.not_eq_true', Bool.not_eq_false', Bool.not_eq_true, Bool.not_eq_false, bne_iff_ne, beq_iff_eq, ne_eq] at hc0
      refine vk_cons (vs_ret ve_bl ?_)
      refine congrArg (fun z => OT.leaf (eB z)) (?_ : _ = _)
      have : classes0.countP (hit day0) ≠ 0 := fun z => by
        have := cnt_zero.mp z _ hq0
        rw [← Bool.not_eq_true] at this
        exact this ((held_iff o).mp hc0)
      simp [this]
    · skip
      try simp only [List.length_take, List.length_drop, List.length_append, parts_len, isInt_i, isInt_l, isInt_t, isBool_i, isBool_l, isBool_t, isList_i, isList_l, isList_t, isTup_i, isTup_l, isTup_t, isNone_n, isNone_i, isNone_l, isNone_t, Bool.not_true, Bool.not_false, Bool.true_and, Bool.and_true, Bool.false_or, Bool.or_false, List.length_map, List.length_cons, List.length_nil, decide_eq_true_eq, decide_eq_false_iff_not, Bool.and_eq_true, Bool.or_eq_true, Bool.and_eq_false_iff, Bool.or_eq_false_iff, Bool.not_eq_true', Bool.not_eq_false', Bool.not_eq_true, Bool.not_eq_false, bne_iff_ne, beq_iff_eq, ne_eq] at hc0
      refine vk_nil ?_
      refine vk_nil ⟨some (.leaf (eI offset0)), some (.leaf (eI period0)), rfl, ?_⟩
      intro q hq
      rw [take_succ_of hx0] at hq
      rcases List.mem_append.mp hq with hq | hq
      · exact hi q hq
      · cases List.mem_singleton.mp hq
        rw [← Bool.not_eq_true, ← held_iff o]
        exact hc0
  · obtain ⟨s_offset0, s_period0, rfl, hi⟩ := hw
    refine vk_cons (vs_ret ve_bl ?_)
    refine congrArg (fun z => OT.leaf (eB z)) (?_ : _ = _)
    rw [List.take_length] at hi
    have := cnt_zero.mpr hi
    simp [this]
def pre_p_first_left (ds : List PyData) (o : OT) : Prop := ∃ (classes0 : List (Int × Int)), ds = [(eL (e2 eI eI)) classes0] ∧ (SubP classes0) ∧ o = .leaf (eI (leftF classes0))
theorem ok_p_first_left {k : Nat} (F : Fd K "first_left" s_p_first_left f fd) (B : Bl mg) (C_p_is_held : Cal P w K mg base k "is_held" 2 (SpD K pre_p_is_held)) : FnOk P w K mg base CX0 (k + 1) f fd ["classes"] (SpD K pre_p_first_left) := by
  refine fn_ok F sc_p_first_left (fun ds o h => by obtain ⟨classes0, rfl, hpre, rfl⟩ := h; rfl) fun cdv A outer s H E hr ds o h => ?_
  obtain ⟨classes0, rfl, hpre, rfl⟩ := h
  obtain ⟨hl0, hl1, hl2⟩ := left_spec hpre.ex
  refine vk_cons (vs_setG 1 eI ve_int sc_p_first_left.nd fun day0 h_day0 => ?_)
  refine vk_cons (vs_while (fun (m0 : Nat) Γ => ∃ (day1 : Int), Γ = [some (.leaf ((eL (e2 eI eI)) classes0)), some (.leaf (eI day1))] ∧ m0 = (leftF classes0 - day1).toNat ∧ (0 ≤ day1 ∧ day1 ≤ leftF classes0)) ⟨_, day0, rfl, rfl, ?_⟩ (fun m0 _ hw => ?_))
  · skip
    omega
  · obtain ⟨day1, rfl, rfl, ⟨hd0, hd1⟩⟩ := hw
    refine ⟨_, (vb_val (ve_call C_p_is_held hr (va_cons (vn 0) (va_cons (vn 1) va_nil)) ⟨_, _, rfl, hpre.ok, rfl⟩)), fun hc0 => ?_, fun hc0 => ?_⟩
    · skip
      try simp only [List.length_take, List.length_drop, List.length_append, parts_len, isInt_i, isInt_l, isInt_t, isBool_i, isBool_l, isBool_t, isList_i, isList_l, isList_t, isTup_i, isTup_l, isTup_t, isNone_n, isNone_i, isNone_l, isNone_t, Bool.not_true, Bool.not_false, Bool.true_and, Bool.and_true, Bool.false_or, Bool.or_false, List.length_map, List.length_cons, List.length_nil, decide_eq_true_eq, decide_eq_false_iff_not, Bool.and_eq_true, Bool.or_eq_true, Bool.and_eq_false_iff, Bool.or_eq_false_iff, Bool.not_eq_true', Bool.not_eq_false', Bool.not_eq_true, Bool.not_eq_false, bne_iff_ne, beq_iff_eq, ne_eq] at hc0
      have hdn : day1 ≠ leftF classes0 := fun e => by rw [e] at hc0; simp [hl1] at hc0
      refine vk_cons (vs_setG 1 eI (ve_add (vn 1) ve_int) sc_p_first_left.nd fun day2 h_day2 => ?_)
      refine vk_nil ⟨_, ?_, day2, rfl, rfl, ?_⟩
      · skip
        omega
      · skip
        omega
    · skip
      try simp only [List.length_take, List.length_drop, List.length_append, parts_len, isInt_i, isInt_l, isInt_t, isBool_i, isBool_l, isBool_t, isList_i, isList_l, isList_t, isTup_i, isTup_l, isTup_t, isNone_n, isNone_i, isNone_l, isNone_t, Bool.not_true, Bool.not_false, Bool.true_and, Bool.and_true, Bool.false_or, Bool.or_false, List.length_map, List.length_cons, List.length_nil, decide_eq_true_eq, decide_eq_false_iff_not, Bool.and_eq_true, Bool.or_eq_true, Bool.and_eq_false_iff, Bool.or_eq_false_iff, Bool.not_eq_true', Bool.not_eq_false', Bool.not_eq_true, Bool.not_eq_false, bne_iff_ne, beq_iff_eq, ne_eq] at hc0
      refine vk_cons (vs_ret (vn 1) ?_)
      refine congrArg (fun z => OT.leaf (eI z)) (?_ : _ = _)
      by_cases e : day1 = leftF classes0
      · exact e
      · exfalso
        have := hl2 day1 hd0 (by omega)
        simp [this] at hc0
def pre_p_parting_paper (ds : List PyData) (o : OT) : Prop := ∃ (classes0 : List (Int × Int)), ds = [(eL (e2 eI eI)) classes0] ∧ (SubP classes0 ∧ classes0.length < 100000 ∧ (∀ p ∈ classes0, p.2 < 10000000000000)) ∧ o = .leaf (eD (PyData.tuple [.str "left", .int (leftF classes0)]))
theorem ok_p_parting_paper {k : Nat} (F : Fd K "parting_paper" s_p_parting_paper f fd) (B : Bl mg) (C_p_first_left : Cal P w K mg base k "first_left" 1 (SpD K pre_p_first_left)) (C_p_first_meeting : Cal P w K mg base k "first_meeting" 1 (SpD K pre_p_first_meeting)) (C_p_shares_fill : Cal P w K mg base k "shares_fill" 1 (SpD K pre_p_shares_fill)) : FnOk P w K mg base CX0 (k + 1) f fd ["classes"] (SpD K pre_p_parting_paper) := by
  refine fn_ok F sc_p_parting_paper (fun ds o h => by obtain ⟨classes0, rfl, ⟨hp, hz, hb⟩, rfl⟩ := h; rfl) fun cdv A outer s H E hr ds o h => ?_
  obtain ⟨classes0, rfl, ⟨hp, hz, hb⟩, rfl⟩ := h
  have hnf : fillB classes0 = false := decide_eq_false hp.notAll
  refine vk_cons (vs_setG 1 eD (ve_call C_p_first_meeting hr (va_cons (vn 0) va_nil) ⟨_, rfl, ⟨hp.ok, apart_of hp.one, hz, hb⟩, rfl⟩) sc_p_parting_paper.nd fun meeting_pair0 h_meeting_pair0 => ?_)
  refine vk_cons (vs_if (vb_cmp (vc_notN (vn 1).v)) (fun hc0 => ?_) (fun hc0 => ?_))
  · skip
    try simp only [List.length_take, List.length_drop, List.length_append, parts_len, isInt_i, isInt_l, isInt_t, isBool_i, isBool_l, isBool_t, isList_i, isList_l, isList_t, isTup_i, isTup_l, isTup_t, isNone_n, isNone_i, isNone_l, isNone_t, Bool.not_true, Bool.not_false, Bool.true_and, Bool.and_true, Bool.false_or, Bool.or_false, List.length_map, List.length_cons, List.length_nil, decide_eq_true_eq, decide_eq_false_iff_not, Bool.and_eq_true, Bool.or_eq_true, Bool.and_eq_false_iff, Bool.or_eq_false_iff, Bool.not_eq_true', Bool.not_eq_false', Bool.not_eq_true, Bool.not_eq_false, bne_iff_ne, beq_iff_eq, ne_eq] at hc0
    refine vk_cons (vs_ret (show VD _ _ _ PyData.none from (by exact absurd (h_meeting_pair0 ▸ hc0) (by simp))) ?_)
    refine congrArg (fun z => OT.leaf (eD z)) (?_ : _ = _)
    first | done | rfl | omega | (simp_all; done) | (simp_all; omega) -- ret return ('meet', meeting_pair[0], meeting_pair[1])
  · skip
    try simp only [List.length_take, List.length_drop, List.length_append, parts_len, isInt_i, isInt_l, isInt_t, isBool_i, isBool_l, isBool_t, isList_i, isList_l, isList_t, isTup_i, isTup_l, isTup_t, isNone_n, isNone_i, isNone_l, isNone_t, Bool.not_true, Bool.not_false, Bool.true_and, Bool.and_true, Bool.false_or, Bool.or_false, List.length_map, List.length_cons, List.length_nil, decide_eq_true_eq, decide_eq_false_iff_not, Bool.and_eq_true, Bool.or_eq_true, Bool.and_eq_false_iff, Bool.or_eq_false_iff, Bool.not_eq_true', Bool.not_eq_false', Bool.not_eq_true, Bool.not_eq_false, bne_iff_ne, beq_iff_eq, ne_eq] at hc0
    refine vk_nil ?_
    refine vk_cons (vs_if (vb_val (ve_call C_p_shares_fill hr (va_cons (vn 0) va_nil) ⟨_, rfl, ⟨fun p hm => ⟨hp.ok p hm, hb p hm⟩, hz⟩, rfl⟩)) (fun hc1 => ?_) (fun hc1 => ?_))
    · skip
      try simp only [List.length_take, List.length_drop, List.length_append, parts_len, isInt_i, isInt_l, isInt_t, isBool_i, isBool_l, isBool_t, isList_i, isList_l, isList_t, isTup_i, isTup_l, isTup_t, isNone_n, isNone_i, isNone_l, isNone_t, Bool.not_true, Bool.not_false, Bool.true_and, Bool.and_true, Bool.false_or, Bool.or_false, List.length_map, List.length_cons, List.length_nil, decide_eq_true_eq, decide_eq_false_iff_not, Bool.and_eq_true, Bool.or_eq_true, Bool.and_eq_false_iff, Bool.or_eq_false_iff, Bool.not_eq_true', Bool.not_eq_false', Bool.not_eq_true, Bool.not_eq_false, bne_iff_ne, beq_iff_eq, ne_eq] at hc1
      refine vk_cons (vs_ret (tup1 ve_str) ?_)
      refine congrArg (fun z => OT.leaf (eD z)) (?_ : _ = _)
      rw [hnf] at hc1
      exact absurd hc1 (by decide)
    · skip
      try simp only [List.length_take, List.length_drop, List.length_append, parts_len, isInt_i, isInt_l, isInt_t, isBool_i, isBool_l, isBool_t, isList_i, isList_l, isList_t, isTup_i, isTup_l, isTup_t, isNone_n, isNone_i, isNone_l, isNone_t, Bool.not_true, Bool.not_false, Bool.true_and, Bool.and_true, Bool.false_or, Bool.or_false, List.length_map, List.length_cons, List.length_nil, decide_eq_true_eq, decide_eq_false_iff_not, Bool.and_eq_true, Bool.or_eq_true, Bool.and_eq_false_iff, Bool.or_eq_false_iff, Bool.not_eq_true', Bool.not_eq_false', Bool.not_eq_true, Bool.not_eq_false, bne_iff_ne, beq_iff_eq, ne_eq] at hc1
      refine vk_nil ?_
      refine vk_cons (vs_ret (vtup2 (ea := eS) (eb := eI) ve_str (ve_call C_p_first_left hr (va_cons (vn 0) va_nil) ⟨_, rfl, hp, rfl⟩)) ?_)
      refine congrArg (fun z => OT.leaf (eD z)) (?_ : _ = _)
      first | done | rfl | omega | (simp_all; done) | (simp_all; omega) -- ret return ('left', first_left(classes))
def pre_p_is_parting (ds : List PyData) (o : OT) : Prop := ∃ (value0 : List (Int × Int)), ds = [(eL (e2 eI eI)) value0] ∧ (value0 ≠ [] ∧ (∀ p ∈ value0, Ok p) ∧ Srt value0 ∧ (value0.Pairwise fun p q => meetB p q = false) ∧ value0.length < 100000 ∧ (∀ p ∈ value0, p.2 < 10000000000000)) ∧ o = .leaf (eB (fillB value0))
theorem ok_p_is_parting {k : Nat} (F : Fd K "is_parting" s_p_is_parting f fd) (B : Bl mg) (C_p_first_meeting : Cal P w K mg base k "first_meeting" 1 (SpD K pre_p_first_meeting)) (C_p_is_class_list : Cal P w K mg base k "is_class_list" 1 (SpD K pre_p_is_class_list)) (C_p_shares_fill : Cal P w K mg base k "shares_fill" 1 (SpD K pre_p_shares_fill)) : FnOk P w K mg base CX0 (k + 1) f fd ["value"] (SpD K pre_p_is_parting) := by
  refine fn_ok F sc_p_is_parting (fun ds o h => by obtain ⟨value0, rfl, ⟨hne, hok, hs, hap, hz, hb⟩, rfl⟩ := h; rfl) fun cdv A outer s H E hr ds o h => ?_
  obtain ⟨value0, rfl, ⟨hne, hok, hs, hap, hz, hb⟩, rfl⟩ := h
  refine vk_cons (vs_ret (ve_andV (ve_call C_p_is_class_list hr (va_cons (vn 0) va_nil) ⟨_, rfl, ⟨hne, hz, hok, hs⟩, rfl⟩) (fun hq2 => (ve_andV (ve_cmp (vc_isN (ve_call C_p_first_meeting hr (va_cons (vn 0) va_nil) ⟨_, rfl, ⟨hok, hap, hz, hb⟩, rfl⟩).v)) (fun hq1 => (ve_one (ve_call C_p_shares_fill hr (va_cons (vn 0) va_nil) ⟨_, rfl, ⟨fun p hm => ⟨hok p hm, hb p hm⟩, hz⟩, rfl⟩)))))) ?_)
  refine congrArg (fun z => OT.leaf (eB z)) (?_ : _ = _)
  first | done | rfl | omega | (simp_all; done) | (simp_all; omega) -- ret return is_class_list(value) and first_meeting(value) is None and shares_fill(value)
def pre_p_greatest_period (ds : List PyData) (o : OT) : Prop := ∃ (classes0 : List (Int × Int)), ds = [(eL (e2 eI eI)) classes0] ∧ (classes0 ≠ [] ∧ (∀ p ∈ classes0, 1 ≤ p.2) ∧ classes0.length < 100000) ∧ o = .leaf ((e2 eI eI) ((maxP classes0, ((cntP classes0 : Nat) : Int))))
theorem ok_p_greatest_period {k : Nat} (F : Fd K "greatest_period" s_p_greatest_period f fd) (B : Bl mg) : FnOk P w K mg base CX0 (k + 1) f fd ["classes"] (SpD K pre_p_greatest_period) := by
  refine fn_ok F sc_p_greatest_period (fun ds o h => by obtain ⟨classes0, rfl, ⟨hne, h1, hz⟩, rfl⟩ := h; rfl) fun cdv A outer s H E hr ds o h => ?_
  obtain ⟨classes0, rfl, ⟨hne, h1, hz⟩, rfl⟩ := h
  refine vk_cons (vs_setLcE 1 [("offset", 3), ("period", 4)] (e2 eI eI) eI (vi_list (vn 0)).cc (no_cons (no_none rfl) (no_cons (no_none rfl) no_nil)) (fun _ _ _ _ _ => vg_tup rfl sc_p_greatest_period.nd (na_cons 3 (na_cons 4 na_nil))) (by simp) (by simp) (by first | omega | assumption | (simp only [List.length_take, List.length_drop, List.length_append, parts_len, isInt_i, isInt_l, isInt_t, isBool_i, isBool_l, isBool_t, isList_i, isList_l, isList_t, isTup_i, isTup_l, isTup_t, isNone_n, isNone_i, isNone_l, isNone_t, Bool.not_true, Bool.not_false, Bool.true_and, Bool.and_true, Bool.false_or, Bool.or_false, List.length_map, List.length_cons, List.length_nil, decide_eq_true_eq, decide_eq_false_iff_not, Bool.and_eq_true, Bool.or_eq_true, Bool.and_eq_false_iff, Bool.or_eq_false_iff, Bool.not_eq_true', Bool.not_eq_false', Bool.not_eq_true, Bool.not_eq_false, bne_iff_ne, beq_iff_eq, ne_eq] at *; omega) | (simp; done) | (simp at *; omega)) sc_p_greatest_period.nd (blkOk_by (show blkC N_p_greatest_period (defScope s_p_greatest_period) _ _ = true by decide +kernel)) (fun xa hxa =>  ⟨_, rfl, fun _ _ _ _ _ => ⟨vts_nil, fun hxp => (vn 4)⟩⟩) fun periods0 h_periods0 => ?_)
  refine vk_frz 1 rfl ?_
  have ep : periods0 = classes0.map (·.2) := by rw [h_periods0, filter_true]
  obtain ⟨q, hq1, hq2⟩ := maxP_mem hne h1
  have hpl : 0 < periods0.length := by rw [ep, List.length_map]; exact List.length_pos_iff.mpr hne
  refine vk_cons (vs_setG 2 eI (ve_maxL (m := maxP classes0) rfl (vn 1).v hpl (by rw [ep]; exact List.mem_map.mpr ⟨q, hq1, hq2⟩) (by rw [ep]; exact fun y hy => max_ge hy) B.b_max) sc_p_greatest_period.nd fun greatest0 h_greatest0 => ?_)
  refine vk_cons (vs_ret (vtup2 (ea := eI) (eb := eI) (vn 2) (ve_countI (vn 1).lsE (vn 2))) ?_)
  refine congrArg (fun z => OT.leaf ((e2 eI eI) z)) (?_ : _ = _)
  rw [h_greatest0, ep]
  rfl
end
end My

namespace My
open PySem PySem.Spec PyProof.Rows L2 V3
section
variable {P : Program} {w : World} {K : Fg} {mg : Str → Option Value} {base : Heap} {f : Addr} {fd : FuncData}
def pre_l_draws (os : List OT) (P : OT → Prop) : Prop := ∃ (script0 : List Int) (many0 : Int), os = [.scr script0, .leaf (eI many0)] ∧ (script0.length ≤ 63 ∧ 0 ≤ many0 ∧ many0 ≤ 400) ∧ P = (someL eI fun res => res.length = many0.toNat)
theorem ok_l_draws {k : Nat} (F : Fd K "_law_draws" s_l_draws f fd) (B : Bl mg) : FnOk P w K mg base CX0 (k + 1) f fd ["script", "many"] (SpN K pre_l_draws) := by
  refine fn_okN F sc_l_draws (fun ds o h => by obtain ⟨script0, many0, rfl, hpre, rfl⟩ := h; rfl) fun cdv A outer s H E hr ds o h => ?_
  obtain ⟨script0, many0, rfl, hpre, rfl⟩ := h
  refine vk_cons (vs_setO 2 eI (vdispE (vae_nil _)) sc_l_draws.nd fun found0 h_found0 => ?_)
  refine vk_cons (vs_forN (en := eI) 3 (fun (m0 : Nat) Γ => ∃ (found1 : List Int) (s_cell0 : Option OT) (s_number0 : Option OT) (s_k0 : Option OT) (s_mixed0 : Option OT), Γ = [some (.scr script0), some (.leaf (eI many0)), some (.lst (lfs (found1.map eI))), s_cell0, s_number0, s_k0, s_mixed0, none] ∧ (found1.length ≤ 60 * m0)) (fun _ => (vi_list (vslS 0 vp_none (vp_some ve_int) (cutD_to _ _ (by decide))).frzE)) sc_l_draws.nd ⟨found0, none, none, none, none, rfl, ?_⟩ (fun m0 cell0 _ hx0 hw => ?_) (fun _ hw => ?_))
  · skip
    subst h_found0
    simp
  · obtain ⟨found1, s_cell0, s_number0, s_k0, s_mixed0, rfl, hf⟩ := hw
    have hm := (List.getElem?_eq_some_iff.mp hx0).1
    rw [List.length_take] at hm
    refine vk_cons (vs_setG 4 eI (ve_abs (ve_int1 (vn 3) B.b_int) B.b_abs) sc_l_draws.nd fun number0 h_number0 => ?_)
    refine vk_cons (vs_if (vb_cmp (vc_ge (vn 4) (ve_pow ve_int ve_int (by unfold CPow; first | decide | omega)))) (fun hc0 => ?_) (fun hc0 => ?_))
    · skip
      try simp only [List.length_take, List.length_drop, List.length_append, parts_len, isInt_i, isInt_l, isInt_t, isBool_i, isBool_l, isBool_t, isList_i, isList_l, isList_t, isTup_i, isTup_l, isTup_t, isNone_n, isNone_i, isNone_l, isNone_t, Bool.not_true, Bool.not_false, Bool.true_and, Bool.and_true, Bool.false_or, Bool.or_false, List.length_map, List.length_cons, List.length_nil, decide_eq_true_eq, decide_eq_false_iff_not, Bool.and_eq_true, Bool.or_eq_true, Bool.and_eq_false_iff, Bool.or_eq_false_iff, Bool.not_eq_true', Bool.not_eq_false', Bool.not_eq_true, Bool.not_eq_false, bne_iff_ne, beq_iff_eq, ne_eq] at hc0
      refine vk_cons (vs_forR 5 (fun (m1 : Nat) Γ => ∃ (found2 : List Int) (number1 : Int) (s_k1 : Option OT), Γ = [some (.scr script0), some (.leaf (eI many0)), some (.lst (lfs (found2.map eI))), some (.leaf (eI cell0)), some (.leaf (eI number1)), s_k1, s_mixed0, none] ∧ (found2.length ≤ 60 * m0 + m1)) (fun _ => (vi_rng1 ve_int (by first | omega | assumption | (simp only [List.length_take, List.length_drop, List.length_append, parts_len, isInt_i, isInt_l, isInt_t, isBool_i, isBool_l, isBool_t, isList_i, isList_l, isList_t, isTup_i, isTup_l, isTup_t, isNone_n, isNone_i, isNone_l, isNone_t, Bool.not_true, Bool.not_false, Bool.true_and, Bool.and_true, Bool.false_or, Bool.or_false, List.length_map, List.length_cons, List.length_nil, decide_eq_true_eq, decide_eq_false_iff_not, Bool.and_eq_true, Bool.or_eq_true, Bool.and_eq_false_iff, Bool.or_eq_false_iff, Bool.not_eq_true', Bool.not_eq_false', Bool.not_eq_true, Bool.not_eq_false, bne_iff_ne, beq_iff_eq, ne_eq] at *; omega) | (simp; done) | (simp at *; omega)) B.b_range)) sc_l_draws.nd ⟨found1, number0, s_k0, rfl, ?_⟩ (fun m1 k0 _ hx1 hw1 hw => ?_) (fun _ hw => ?_))
      · skip
        omega
      · obtain ⟨found2, number1, s_k1, rfl, hf2⟩ := hw
        refine vk_cons (vs_if (vb_cmp (vc_gt (vn 4) ve_int)) (fun hc1 => ?_) (fun hc1 => ?_))
        · skip
          try simp only [List.length_take, List.length_drop, List.length_append, parts_len, isInt_i, isInt_l, isInt_t, isBool_i, isBool_l, isBool_t, isList_i, isList_l, isList_t, isTup_i, isTup_l, isTup_t, isNone_n, isNone_i, isNone_l, isNone_t, Bool.not_true, Bool.not_false, Bool.true_and, Bool.and_true, Bool.false_or, Bool.or_false, List.length_map, List.length_cons, List.length_nil, decide_eq_true_eq, decide_eq_false_iff_not, Bool.and_eq_true, Bool.or_eq_true, Bool.and_eq_false_iff, Bool.or_eq_false_iff, Bool.not_eq_true', Bool.not_eq_false', Bool.not_eq_true, Bool.not_eq_false, bne_iff_ne, beq_iff_eq, ne_eq] at hc1
          refine vk_cons (vs_appE 2 eI (ve_mod (vn 4) ve_int (by first | omega | assumption | (simp only [List.length_take, List.length_drop, List.length_append, parts_len, isInt_i, isInt_l, isInt_t, isBool_i, isBool_l, isBool_t, isList_i, isList_l, isList_t, isTup_i, isTup_l, isTup_t, isNone_n, isNone_i, isNone_l, isNone_t, Bool.not_true, Bool.not_false, Bool.true_and, Bool.and_true, Bool.false_or, Bool.or_false, List.length_map, List.length_cons, List.length_nil, decide_eq_true_eq, decide_eq_false_iff_not, Bool.and_eq_true, Bool.or_eq_true, Bool.and_eq_false_iff, Bool.or_eq_false_iff, Bool.not_eq_true', Bool.not_eq_false', Bool.not_eq_true, Bool.not_eq_false, bne_iff_ne, beq_iff_eq, ne_eq] at *; omega) | (simp; done) | (simp at *; omega))) ⟨_, rfl⟩ rfl (by first | omega | assumption | (simp only [List.length_take, List.length_drop, List.length_append, parts_len, isInt_i, isInt_l, isInt_t, isBool_i, isBool_l, isBool_t, isList_i, isList_l, isList_t, isTup_i, isTup_l, isTup_t, isNone_n, isNone_i, isNone_l, isNone_t, Bool.not_true, Bool.not_false, Bool.true_and, Bool.and_true, Bool.false_or, Bool.or_false, List.length_map, List.length_cons, List.length_nil, decide_eq_true_eq, decide_eq_false_iff_not, Bool.and_eq_true, Bool.or_eq_true, Bool.and_eq_false_iff, Bool.or_eq_false_iff, Bool.not_eq_true', Bool.not_eq_false', Bool.not_eq_true, Bool.not_eq_false, bne_iff_ne, beq_iff_eq, ne_eq] at *; omega) | (simp; done) | (simp at *; omega)) ?_)
          generalize h_found3 : found2 ++ [_] = found3
          have hl_found3 : found3.length = found2.length + 1 := by rw [← h_found3, List.length_append]; rfl
          refine vk_cons (vs_setG 4 eI (ve_fdivB (vn 4) ve_int (by first | omega | assumption | (simp only [List.length_take, List.length_drop, List.length_append, parts_len, isInt_i, isInt_l, isInt_t, isBool_i, isBool_l, isBool_t, isList_i, isList_l, isList_t, isTup_i, isTup_l, isTup_t, isNone_n, isNone_i, isNone_l, isNone_t, Bool.not_true, Bool.not_false, Bool.true_and, Bool.and_true, Bool.false_or, Bool.or_false, List.length_map, List.length_cons, List.length_nil, decide_eq_true_eq, decide_eq_false_iff_not, Bool.and_eq_true, Bool.or_eq_true, Bool.and_eq_false_iff, Bool.or_eq_false_iff, Bool.not_eq_true', Bool.not_eq_false', Bool.not_eq_true, Bool.not_eq_false, bne_iff_ne, beq_iff_eq, ne_eq] at *; omega) | (simp; done) | (simp at *; omega))) sc_l_draws.nd fun number2 h_number2 => ?_)
          refine vk_nil ?_
          refine vk_nil ⟨found3, number2, some (.leaf (eI k0)), rfl, ?_⟩
          rw [← h_found3, List.length_append]
          show _ + 1 ≤ _
          omega
        · skip
          try simp only [List.length_take, List.length_drop, List.length_append, parts_len, isInt_i, isInt_l, isInt_t, isBool_i, isBool_l, isBool_t, isList_i, isList_l, isList_t, isTup_i, isTup_l, isTup_t, isNone_n, isNone_i, isNone_l, isNone_t, Bool.not_true, Bool.not_false, Bool.true_and, Bool.and_true, Bool.false_or, Bool.or_false, List.length_map, List.length_cons, List.length_nil, decide_eq_true_eq, decide_eq_false_iff_not, Bool.and_eq_true, Bool.or_eq_true, Bool.and_eq_false_iff, Bool.or_eq_false_iff, Bool.not_eq_true', Bool.not_eq_false', Bool.not_eq_true, Bool.not_eq_false, bne_iff_ne, beq_iff_eq, ne_eq] at hc1
          refine vk_nil ?_
          refine vk_nil ⟨found2, number1, some (.leaf (eI k0)), rfl, ?_⟩
          omega
      · obtain ⟨found2, number1, s_k1, rfl, hf2⟩ := hw
        refine vk_nil ?_
        refine vk_nil ⟨found2, some (.leaf (eI cell0)), some (.leaf (eI number1)), s_k1, s_mixed0, rfl, ?_⟩
        first | done | rfl | omega | (simp_all; done) | (simp_all; omega) -- step for cell in script[:63]:
    · skip
      try simp only [List.length_take, List.length_drop, List.length_append, parts_len, isInt_i, isInt_l, isInt_t, isBool_i, isBool_l, isBool_t, isList_i, isList_l, isList_t, isTup_i, isTup_l, isTup_t, isNone_n, isNone_i, isNone_l, isNone_t, Bool.not_true, Bool.not_false, Bool.true_and, Bool.and_true, Bool.false_or, Bool.or_false, List.length_map, List.length_cons, List.length_nil, decide_eq_true_eq, decide_eq_false_iff_not, Bool.and_eq_true, Bool.or_eq_true, Bool.and_eq_false_iff, Bool.or_eq_false_iff, Bool.not_eq_true', Bool.not_eq_false', Bool.not_eq_true, Bool.not_eq_false, bne_iff_ne, beq_iff_eq, ne_eq] at hc0
      refine vk_cons (vs_setG 6 eI (ve_mod (ve_add (ve_add (ve_mulS (vn 4) ve_int (by first | omega | assumption | (simp only [List.length_take, List.length_drop, List.length_append, parts_len, isInt_i, isInt_l, isInt_t, isBool_i, isBool_l, isBool_t, isList_i, isList_l, isList_t, isTup_i, isTup_l, isTup_t, isNone_n, isNone_i, isNone_l, isNone_t, Bool.not_true, Bool.not_false, Bool.true_and, Bool.and_true, Bool.false_or, Bool.or_false, List.length_map, List.length_cons, List.length_nil, decide_eq_true_eq, decide_eq_false_iff_not, Bool.and_eq_true, Bool.or_eq_true, Bool.and_eq_false_iff, Bool.or_eq_false_iff, Bool.not_eq_true', Bool.not_eq_false', Bool.not_eq_true, Bool.not_eq_false, bne_iff_ne, beq_iff_eq, ne_eq] at *; omega) | (simp; done) | (simp at *; omega))) (ve_mulS ve_int (vlenE (vo 2) B.b_len) (by first | omega | assumption | (simp only [List.length_take, List.length_drop, List.length_append, parts_len, isInt_i, isInt_l, isInt_t, isBool_i, isBool_l, isBool_t, isList_i, isList_l, isList_t, isTup_i, isTup_l, isTup_t, isNone_n, isNone_i, isNone_l, isNone_t, Bool.not_true, Bool.not_false, Bool.true_and, Bool.and_true, Bool.false_or, Bool.or_false, List.length_map, List.length_cons, List.length_nil, decide_eq_true_eq, decide_eq_false_iff_not, Bool.and_eq_true, Bool.or_eq_true, Bool.and_eq_false_iff, Bool.or_eq_false_iff, Bool.not_eq_true', Bool.not_eq_false', Bool.not_eq_true, Bool.not_eq_false, bne_iff_ne, beq_iff_eq, ne_eq] at *; omega) | (simp; done) | (simp at *; omega)))) ve_int) ve_int (by first | omega | assumption | (simp only [List.length_take, List.length_drop, List.length_append, parts_len, isInt_i, isInt_l, isInt_t, isBool_i, isBool_l, isBool_t, isList_i, isList_l, isList_t, isTup_i, isTup_l, isTup_t, isNone_n, isNone_i, isNone_l, isNone_t, Bool.not_true, Bool.not_false, Bool.true_and, Bool.and_true, Bool.false_or, Bool.or_false, List.length_map, List.length_cons, List.length_nil, decide_eq_true_eq, decide_eq_false_iff_not, Bool.and_eq_true, Bool.or_eq_true, Bool.and_eq_false_iff, Bool.or_eq_false_iff, Bool.not_eq_true', Bool.not_eq_false', Bool.not_eq_true, Bool.not_eq_false, bne_iff_ne, beq_iff_eq, ne_eq] at *; omega) | (simp; done) | (simp at *; omega))) sc_l_draws.nd fun mixed0 h_mixed0 => ?_)
      refine vk_cons (vs_forR 5 (fun (m2 : Nat) Γ => ∃ (found4 : List Int) (s_k2 : Option OT) (mixed1 : Int), Γ = [some (.scr script0), some (.leaf (eI many0)), some (.lst (lfs (found4.map eI))), some (.leaf (eI cell0)), some (.leaf (eI number0)), s_k2, some (.leaf (eI mixed1)), none] ∧ (found4.length ≤ 60 * m0 + m2)) (fun _ => (vi_rng1 ve_int (by first | omega | assumption | (simp only [List.length_take, List.length_drop, List.length_append, parts_len, isInt_i, isInt_l, isInt_t, isBool_i, isBool_l, isBool_t, isList_i, isList_l, isList_t, isTup_i, isTup_l, isTup_t, isNone_n, isNone_i, isNone_l, isNone_t, Bool.not_true, Bool.not_false, Bool.true_and, Bool.and_true, Bool.false_or, Bool.or_false, List.length_map, List.length_cons, List.length_nil, decide_eq_true_eq, decide_eq_false_iff_not, Bool.and_eq_true, Bool.or_eq_true, Bool.and_eq_false_iff, Bool.or_eq_false_iff, Bool.not_eq_true', Bool.not_eq_false', Bool.not_eq_true, Bool.not_eq_false, bne_iff_ne, beq_iff_eq, ne_eq] at *; omega) | (simp; done) | (simp at *; omega)) B.b_range)) sc_l_draws.nd ⟨found1, s_k0, mixed0, rfl, ?_⟩ (fun m2 k1 _ hx2 hw2 hw => ?_) (fun _ hw => ?_))
      · skip
        omega
      · obtain ⟨found4, s_k2, mixed1, rfl, hf2⟩ := hw
        refine vk_cons (vs_setG 6 eI (ve_mod (ve_add (ve_add (ve_add (ve_mulS (vn 6) ve_int (by first | omega | assumption | (simp only [List.length_take, List.length_drop, List.length_append, parts_len, isInt_i, isInt_l, isInt_t, isBool_i, isBool_l, isBool_t, isList_i, isList_l, isList_t, isTup_i, isTup_l, isTup_t, isNone_n, isNone_i, isNone_l, isNone_t, Bool.not_true, Bool.not_false, Bool.true_and, Bool.and_true, Bool.false_or, Bool.or_false, List.length_map, List.length_cons, List.length_nil, decide_eq_true_eq, decide_eq_false_iff_not, Bool.and_eq_true, Bool.or_eq_true, Bool.and_eq_false_iff, Bool.or_eq_false_iff, Bool.not_eq_true', Bool.not_eq_false', Bool.not_eq_true, Bool.not_eq_false, bne_iff_ne, beq_iff_eq, ne_eq] at *; omega) | (simp; done) | (simp at *; omega))) (ve_fdivB (vn 6) ve_int (by first | omega | assumption | (simp only [List.length_take, List.length_drop, List.length_append, parts_len, isInt_i, isInt_l, isInt_t, isBool_i, isBool_l, isBool_t, isList_i, isList_l, isList_t, isTup_i, isTup_l, isTup_t, isNone_n, isNone_i, isNone_l, isNone_t, Bool.not_true, Bool.not_false, Bool.true_and, Bool.and_true, Bool.false_or, Bool.or_false, List.length_map, List.length_cons, List.length_nil, decide_eq_true_eq, decide_eq_false_iff_not, Bool.and_eq_true, Bool.or_eq_true, Bool.and_eq_false_iff, Bool.or_eq_false_iff, Bool.not_eq_true', Bool.not_eq_false', Bool.not_eq_true, Bool.not_eq_false, bne_iff_ne, beq_iff_eq, ne_eq] at *; omega) | (simp; done) | (simp at *; omega)))) (ve_mulS ve_int (vn 5) (by first | omega | assumption | (simp only [List.length_take, List.length_drop, List.length_append, parts_len, isInt_i, isInt_l, isInt_t, isBool_i, isBool_l, isBool_t, isList_i, isList_l, isList_t, isTup_i, isTup_l, isTup_t, isNone_n, isNone_i, isNone_l, isNone_t, Bool.not_true, Bool.not_false, Bool.true_and, Bool.and_true, Bool.false_or, Bool.or_false, List.length_map, List.length_cons, List.length_nil, decide_eq_true_eq, decide_eq_false_iff_not, Bool.and_eq_true, Bool.or_eq_true, Bool.and_eq_false_iff, Bool.or_eq_false_iff, Bool.not_eq_true', Bool.not_eq_false', Bool.not_eq_true, Bool.not_eq_false, bne_iff_ne, beq_iff_eq, ne_eq] at *; omega) | (simp; done) | (simp at *; omega)))) ve_int) ve_int (by first | omega | assumption | (simp only [List.length_take, List.length_drop, List.length_append, parts_len, isInt_i, isInt_l, isInt_t, isBool_i, isBool_l, isBool_t, isList_i, isList_l, isList_t, isTup_i, isTup_l, isTup_t, isNone_n, isNone_i, isNone_l, isNone_t, Bool.not_true, Bool.not_false, Bool.true_and, Bool.and_true, Bool.false_or, Bool.or_false, List.length_map, List.length_cons, List.length_nil, decide_eq_true_eq, decide_eq_false_iff_not, Bool.and_eq_true, Bool.or_eq_true, Bool.and_eq_false_iff, Bool.or_eq_false_iff, Bool.not_eq_true', Bool.not_eq_false', Bool.not_eq_true, Bool.not_eq_false, bne_iff_ne, beq_iff_eq, ne_eq] at *; omega) | (simp; done) | (simp at *; omega))) sc_l_draws.nd fun mixed2 h_mixed2 => ?_)
        refine vk_cons (vs_appE 2 eI (ve_mod (ve_fdivB (vn 6) ve_int (by first | omega | assumption | (simp only [List.length_take, List.length_drop, List.length_append, parts_len, isInt_i, isInt_l, isInt_t, isBool_i, isBool_l, isBool_t, isList_i, isList_l, isList_t, isTup_i, isTup_l, isTup_t, isNone_n, isNone_i, isNone_l, isNone_t, Bool.not_true, Bool.not_false, Bool.true_and, Bool.and_true, Bool.false_or, Bool.or_false, List.length_map, List.length_cons, List.length_nil, decide_eq_true_eq, decide_eq_false_iff_not, Bool.and_eq_true, Bool.or_eq_true, Bool.and_eq_false_iff, Bool.or_eq_false_iff, Bool.not_eq_true', Bool.not_eq_false', Bool.not_eq_true, Bool.not_eq_false, bne_iff_ne, beq_iff_eq, ne_eq] at *; omega) | (simp; done) | (simp at *; omega))) ve_int (by first | omega | assumption | (simp only [List.length_take, List.length_drop, List.length_append, parts_len, isInt_i, isInt_l, isInt_t, isBool_i, isBool_l, isBool_t, isList_i, isList_l, isList_t, isTup_i, isTup_l, isTup_t, isNone_n, isNone_i, isNone_l, isNone_t, Bool.not_true, Bool.not_false, Bool.true_and, Bool.and_true, Bool.false_or, Bool.or_false, List.length_map, List.length_cons, List.length_nil, decide_eq_true_eq, decide_eq_false_iff_not, Bool.and_eq_true, Bool.or_eq_true, Bool.and_eq_false_iff, Bool.or_eq_false_iff, Bool.not_eq_true', Bool.not_eq_false', Bool.not_eq_true, Bool.not_eq_false, bne_iff_ne, beq_iff_eq, ne_eq] at *; omega) | (simp; done) | (simp at *; omega))) ⟨_, rfl⟩ rfl (by first | omega | assumption | (simp only [List.length_take, List.length_drop, List.length_append, parts_len, isInt_i, isInt_l, isInt_t, isBool_i, isBool_l, isBool_t, isList_i, isList_l, isList_t, isTup_i, isTup_l, isTup_t, isNone_n, isNone_i, isNone_l, isNone_t, Bool.not_true, Bool.not_false, Bool.true_and, Bool.and_true, Bool.false_or, Bool.or_false, List.length_map, List.length_cons, List.length_nil, decide_eq_true_eq, decide_eq_false_iff_not, Bool.and_eq_true, Bool.or_eq_true, Bool.and_eq_false_iff, Bool.or_eq_false_iff, Bool.not_eq_true', Bool.not_eq_false', Bool.not_eq_true, Bool.not_eq_false, bne_iff_ne, beq_iff_eq, ne_eq] at *; omega) | (simp; done) | (simp at *; omega)) ?_)
        generalize h_found5 : found4 ++ [_] = found5
        have hl_found5 : found5.length = found4.length + 1 := by rw [← h_found5, List.length_append]; rfl
        refine vk_nil ⟨found5, some (.leaf (eI k1)), mixed2, rfl, ?_⟩
        first | done | rfl | omega | (simp_all; done) | (simp_all; omega) -- step for k in range(4):
      · obtain ⟨found4, s_k2, mixed1, rfl, hf2⟩ := hw
        refine vk_nil ?_
        refine vk_nil ⟨found4, some (.leaf (eI cell0)), some (.leaf (eI number0)), s_k2, some (.leaf (eI mixed1)), rfl, ?_⟩
        first | done | rfl | omega | (simp_all; done) | (simp_all; omega) -- step for cell in script[:63]:
  · obtain ⟨found1, s_cell0, s_number0, s_k0, s_mixed0, rfl, hf⟩ := hw
    refine vk_cons (vs_forR 5 (fun (m3 : Nat) Γ => ∃ (found6 : List Int) (s_k3 : Option OT) (s_base0 : Option OT), Γ = [some (.scr script0), some (.leaf (eI many0)), some (.lst (lfs (found6.map eI))), s_cell0, s_number0, s_k3, s_mixed0, s_base0] ∧ (m3 ≤ found6.length ∧ found6.length ≤ 3780 + m3)) (fun _ => (vi_rng1 (vn 1) (by first | omega | assumption | (simp only [List.length_take, List.length_drop, List.length_append, parts_len, isInt_i, isInt_l, isInt_t, isBool_i, isBool_l, isBool_t, isList_i, isList_l, isList_t, isTup_i, isTup_l, isTup_t, isNone_n, isNone_i, isNone_l, isNone_t, Bool.not_true, Bool.not_false, Bool.true_and, Bool.and_true, Bool.false_or, Bool.or_false, List.length_map, List.length_cons, List.length_nil, decide_eq_true_eq, decide_eq_false_iff_not, Bool.and_eq_true, Bool.or_eq_true, Bool.and_eq_false_iff, Bool.or_eq_false_iff, Bool.not_eq_true', Bool.not_eq_false', Bool.not_eq_true, Bool.not_eq_false, bne_iff_ne, beq_iff_eq, ne_eq] at *; omega) | (simp; done) | (simp at *; omega)) B.b_range)) sc_l_draws.nd ⟨found1, s_k0, none, rfl, ?_⟩ (fun m3 k2 _ hx3 hw3 hw => ?_) (fun _ hw => ?_))
    · skip
      simp only [List.length_take] at hf
      omega
    · obtain ⟨found6, s_k3, s_base0, rfl, ⟨hg1, hg2⟩⟩ := hw
      refine vk_cons (vs_if (vb_cmp (vc_lt (vlenE (vo 2) B.b_len) (vn 1))) (fun hc2 => ?_) (fun hc2 => ?_))
      · skip
        try simp only [List.length_take, List.length_drop, List.length_append, parts_len, isInt_i, isInt_l, isInt_t, isBool_i, isBool_l, isBool_t, isList_i, isList_l, isList_t, isTup_i, isTup_l, isTup_t, isNone_n, isNone_i, isNone_l, isNone_t, Bool.not_true, Bool.not_false, Bool.true_and, Bool.and_true, Bool.false_or, Bool.or_false, List.length_map, List.length_cons, List.length_nil, decide_eq_true_eq, decide_eq_false_iff_not, Bool.and_eq_true, Bool.or_eq_true, Bool.and_eq_false_iff, Bool.or_eq_false_iff, Bool.not_eq_true', Bool.not_eq_false', Bool.not_eq_true, Bool.not_eq_false, bne_iff_ne, beq_iff_eq, ne_eq] at hc2
        refine vk_cons (vs_setG 7 eI ve_int sc_l_draws.nd fun base0 h_base0 => ?_)
        refine vk_cons (vs_if (vb_cmp (vc_gt (vlenE (vo 2) B.b_len) ve_int)) (fun hc3 => ?_) (fun hc3 => ?_))
        · skip
          try simp only [List.length_take, List.length_drop, List.length_append, parts_len, isInt_i, isInt_l, isInt_t, isBool_i, isBool_l, isBool_t, isList_i, isList_l, isList_t, isTup_i, isTup_l, isTup_t, isNone_n, isNone_i, isNone_l, isNone_t, Bool.not_true, Bool.not_false, Bool.true_and, Bool.and_true, Bool.false_or, Bool.or_false, List.length_map, List.length_cons, List.length_nil, decide_eq_true_eq, decide_eq_false_iff_not, Bool.and_eq_true, Bool.or_eq_true, Bool.and_eq_false_iff, Bool.or_eq_false_iff, Bool.not_eq_true', Bool.not_eq_false', Bool.not_eq_true, Bool.not_eq_false, bne_iff_ne, beq_iff_eq, ne_eq] at hc3
          refine vk_cons (vs_setG 7 eI (vixE (0 : Int) (vo 2) (ve_mod (vn 5) (vlenE (vo 2) B.b_len) (by first | omega | assumption | (simp only [List.length_take, List.length_drop, List.length_append, parts_len, isInt_i, isInt_l, isInt_t, isBool_i, isBool_l, isBool_t, isList_i, isList_l, isList_t, isTup_i, isTup_l, isTup_t, isNone_n, isNone_i, isNone_l, isNone_t, Bool.not_true, Bool.not_false, Bool.true_and, Bool.and_true, Bool.false_or, Bool.or_false, List.length_map, List.length_cons, List.length_nil, decide_eq_true_eq, decide_eq_false_iff_not, Bool.and_eq_true, Bool.or_eq_true, Bool.and_eq_false_iff, Bool.or_eq_false_iff, Bool.not_eq_true', Bool.not_eq_false', Bool.not_eq_true, Bool.not_eq_false, bne_iff_ne, beq_iff_eq, ne_eq] at *; omega) | (simp; done) | (simp at *; omega))) (ixmod _ _ (by first | omega | assumption | (simp only [List.length_take, List.length_drop, List.length_append, parts_len, isInt_i, isInt_l, isInt_t, isBool_i, isBool_l, isBool_t, isList_i, isList_l, isList_t, isTup_i, isTup_l, isTup_t, isNone_n, isNone_i, isNone_l, isNone_t, Bool.not_true, Bool.not_false, Bool.true_and, Bool.and_true, Bool.false_or, Bool.or_false, List.length_map, List.length_cons, List.length_nil, decide_eq_true_eq, decide_eq_false_iff_not, Bool.and_eq_true, Bool.or_eq_true, Bool.and_eq_false_iff, Bool.or_eq_false_iff, Bool.not_eq_true', Bool.not_eq_false', Bool.not_eq_true, Bool.not_eq_false, bne_iff_ne, beq_iff_eq, ne_eq] at *; omega) | (simp; done) | (simp at *; omega)))) sc_l_draws.nd fun base1 h_base1 => ?_)
          refine vk_nil ?_
          refine vk_cons (vs_appE 2 eI (ve_mod (ve_add (ve_add (ve_mulS (vn 7) ve_int (by first | omega | assumption | (simp only [List.length_take, List.length_drop, List.length_append, parts_len, isInt_i, isInt_l, isInt_t, isBool_i, isBool_l, isBool_t, isList_i, isList_l, isList_t, isTup_i, isTup_l, isTup_t, isNone_n, isNone_i, isNone_l, isNone_t, Bool.not_true, Bool.not_false, Bool.true_and, Bool.and_true, Bool.false_or, Bool.or_false, List.length_map, List.length_cons, List.length_nil, decide_eq_true_eq, decide_eq_false_iff_not, Bool.and_eq_true, Bool.or_eq_true, Bool.and_eq_false_iff, Bool.or_eq_false_iff, Bool.not_eq_true', Bool.not_eq_false', Bool.not_eq_true, Bool.not_eq_false, bne_iff_ne, beq_iff_eq, ne_eq] at *; omega) | (simp; done) | (simp at *; omega))) (ve_mulS ve_int (vlenE (vo 2) B.b_len) (by first | omega | assumption | (simp only [List.length_take, List.length_drop, List.length_append, parts_len, isInt_i, isInt_l, isInt_t, isBool_i, isBool_l, isBool_t, isList_i, isList_l, isList_t, isTup_i, isTup_l, isTup_t, isNone_n, isNone_i, isNone_l, isNone_t, Bool.not_true, Bool.not_false, Bool.true_and, Bool.and_true, Bool.false_or, Bool.or_false, List.length_map, List.length_cons, List.length_nil, decide_eq_true_eq, decide_eq_false_iff_not, Bool.and_eq_true, Bool.or_eq_true, Bool.and_eq_false_iff, Bool.or_eq_false_iff, Bool.not_eq_true', Bool.not_eq_false', Bool.not_eq_true, Bool.not_eq_false, bne_iff_ne, beq_iff_eq, ne_eq] at *; omega) | (simp; done) | (simp at *; omega)))) ve_int) ve_int (by first | omega | assumption | (simp only [List.length_take, List.length_drop, List.length_append, parts_len, isInt_i, isInt_l, isInt_t, isBool_i, isBool_l, isBool_t, isList_i, isList_l, isList_t, isTup_i, isTup_l, isTup_t, isNone_n, isNone_i, isNone_l, isNone_t, Bool.not_true, Bool.not_false, Bool.true_and, Bool.and_true, Bool.false_or, Bool.or_false, List.length_map, List.length_cons, List.length_nil, decide_eq_true_eq, decide_eq_false_iff_not, Bool.and_eq_true, Bool.or_eq_true, Bool.and_eq_false_iff, Bool.or_eq_false_iff, Bool.not_eq_true', Bool.not_eq_false', Bool.not_eq_true, Bool.not_eq_false, bne_iff_ne, beq_iff_eq, ne_eq] at *; omega) | (simp; done) | (simp at *; omega))) ⟨_, rfl⟩ rfl (by first | omega | assumption | (simp only [List.length_take, List.length_drop, List.length_append, parts_len, isInt_i, isInt_l, isInt_t, isBool_i, isBool_l, isBool_t, isList_i, isList_l, isList_t, isTup_i, isTup_l, isTup_t, isNone_n, isNone_i, isNone_l, isNone_t, Bool.not_true, Bool.not_false, Bool.true_and, Bool.and_true, Bool.false_or, Bool.or_false, List.length_map, List.length_cons, List.length_nil, decide_eq_true_eq, decide_eq_false_iff_not, Bool.and_eq_true, Bool.or_eq_true, Bool.and_eq_false_iff, Bool.or_eq_false_iff, Bool.not_eq_true', Bool.not_eq_false', Bool.not_eq_true, Bool.not_eq_false, bne_iff_ne, beq_iff_eq, ne_eq] at *; omega) | (simp; done) | (simp at *; omega)) ?_)
          generalize h_found7 : found6 ++ [_] = found7
          have hl_found7 : found7.length = found6.length + 1 := by rw [← h_found7, List.length_append]; rfl
          refine vk_nil ?_
          refine vk_nil ⟨found7, some (.leaf (eI k2)), some (.leaf (eI base1)), rfl, ?_⟩
          first | done | rfl | omega | (simp_all; done) | (simp_all; omega) -- step for k in range(many):
        · skip
          try simp only [List.length_take, List.length_drop, List.length_append, parts_len, isInt_i, isInt_l, isInt_t, isBool_i, isBool_l, isBool_t, isList_i, isList_l, isList_t, isTup_i, isTup_l, isTup_t, isNone_n, isNone_i, isNone_l, isNone_t, Bool.not_true, Bool.not_false, Bool.true_and, Bool.and_true, Bool.false_or, Bool.or_false, List.length_map, List.length_cons, List.length_nil, decide_eq_true_eq, decide_eq_false_iff_not, Bool.and_eq_true, Bool.or_eq_true, Bool.and_eq_false_iff, Bool.or_eq_false_iff, Bool.not_eq_true', Bool.not_eq_false', Bool.not_eq_true, Bool.not_eq_false, bne_iff_ne, beq_iff_eq, ne_eq] at hc3
          refine vk_nil ?_
          refine vk_cons (vs_appE 2 eI (ve_mod (ve_add (ve_add (ve_mulS (vn 7) ve_int (by first | omega | assumption | (simp only [List.length_take, List.length_drop, List.length_append, parts_len, isInt_i, isInt_l, isInt_t, isBool_i, isBool_l, isBool_t, isList_i, isList_l, isList_t, isTup_i, isTup_l, isTup_t, isNone_n, isNone_i, isNone_l, isNone_t, Bool.not_true, Bool.not_false, Bool.true_and, Bool.and_true, Bool.false_or, Bool.or_false, List.length_map, List.length_cons, List.length_nil, decide_eq_true_eq, decide_eq_false_iff_not, Bool.and_eq_true, Bool.or_eq_true, Bool.and_eq_false_iff, Bool.or_eq_false_iff, Bool.not_eq_true', Bool.not_eq_false', Bool.not_eq_true, Bool.not_eq_false, bne_iff_ne, beq_iff_eq, ne_eq] at *; omega) | (simp; done) | (simp at *; omega))) (ve_mulS ve_int (vlenE (vo 2) B.b_len) (by first | omega | assumption | (simp only [List.length_take, List.length_drop, List.length_append, parts_len, isInt_i, isInt_l, isInt_t, isBool_i, isBool_l, isBool_t, isList_i, isList_l, isList_t, isTup_i, isTup_l, isTup_t, isNone_n, isNone_i, isNone_l, isNone_t, Bool.not_true, Bool.not_false, Bool.true_and, Bool.and_true, Bool.false_or, Bool.or_false, List.length_map, List.length_cons, List.length_nil, decide_eq_true_eq, decide_eq_false_iff_not, Bool.and_eq_true, Bool.or_eq_true, Bool.and_eq_false_iff, Bool.or_eq_false_iff, Bool.not_eq_true', Bool.not_eq_false', Bool.not_eq_true, Bool.not_eq_false, bne_iff_ne, beq_iff_eq, ne_eq] at *; omega) | (simp; done) | (simp at *; omega)))) ve_int) ve_int (by first | omega | assumption | (simp only [List.length_take, List.length_drop, List.length_append, parts_len, isInt_i, isInt_l, isInt_t, isBool_i, isBool_l, isBool_t, isList_i, isList_l, isList_t, isTup_i, isTup_l, isTup_t, isNone_n, isNone_i, isNone_l, isNone_t, Bool.not_true, Bool.not_false, Bool.true_and, Bool.and_true, Bool.false_or, Bool.or_false, List.length_map, List.length_cons, List.length_nil, decide_eq_true_eq, decide_eq_false_iff_not, Bool.and_eq_true, Bool.or_eq_true, Bool.and_eq_false_iff, Bool.or_eq_false_iff, Bool.not_eq_true', Bool.not_eq_false', Bool.not_eq_true, Bool.not_eq_false, bne_iff_ne, beq_iff_eq, ne_eq] at *; omega) | (simp; done) | (simp at *; omega))) ⟨_, rfl⟩ rfl (by first | omega | assumption | (simp only [List.length_take, List.length_drop, List.length_append, parts_len, isInt_i, isInt_l, isInt_t, isBool_i, isBool_l, isBool_t, isList_i, isList_l, isList_t, isTup_i, isTup_l, isTup_t, isNone_n, isNone_i, isNone_l, isNone_t, Bool.not_true, Bool.not_false, Bool.true_and, Bool.and_true, Bool.false_or, Bool.or_false, List.length_map, List.length_cons, List.length_nil, decide_eq_true_eq, decide_eq_false_iff_not, Bool.and_eq_true, Bool.or_eq_true, Bool.and_eq_false_iff, Bool.or_eq_false_iff, Bool.not_eq_true', Bool.not_eq_false', Bool.not_eq_true, Bool.not_eq_false, bne_iff_ne, beq_iff_eq, ne_eq] at *; omega) | (simp; done) | (simp at *; omega)) ?_)
          generalize h_found8 : found6 ++ [_] = found8
          have hl_found8 : found8.length = found6.length + 1 := by rw [← h_found8, List.length_append]; rfl
          refine vk_nil ?_
          refine vk_nil ⟨found8, some (.leaf (eI k2)), some (.leaf (eI base0)), rfl, ?_⟩
          first | done | rfl | omega | (simp_all; done) | (simp_all; omega) -- step for k in range(many):
      · skip
        try simp only [List.length_take, List.length_drop, List.length_append, parts_len, isInt_i, isInt_l, isInt_t, isBool_i, isBool_l, isBool_t, isList_i, isList_l, isList_t, isTup_i, isTup_l, isTup_t, isNone_n, isNone_i, isNone_l, isNone_t, Bool.not_true, Bool.not_false, Bool.true_and, Bool.and_true, Bool.false_or, Bool.or_false, List.length_map, List.length_cons, List.length_nil, decide_eq_true_eq, decide_eq_false_iff_not, Bool.and_eq_true, Bool.or_eq_true, Bool.and_eq_false_iff, Bool.or_eq_false_iff, Bool.not_eq_true', Bool.not_eq_false', Bool.not_eq_true, Bool.not_eq_false, bne_iff_ne, beq_iff_eq, ne_eq] at hc2
        refine vk_nil ?_
        refine vk_nil ⟨found6, some (.leaf (eI k2)), s_base0, rfl, ?_⟩
        first | done | rfl | omega | (simp_all; done) | (simp_all; omega) -- step for k in range(many):
    · obtain ⟨found6, s_k3, s_base0, rfl, ⟨hg1, hg2⟩⟩ := hw
      refine vk_cons (vs_ret (vslE (vo 2) vp_none (vp_some (vn 1)) (cutD_to _ _ (by first | omega | assumption | (simp only [List.length_take, List.length_drop, List.length_append, parts_len, isInt_i, isInt_l, isInt_t, isBool_i, isBool_l, isBool_t, isList_i, isList_l, isList_t, isTup_i, isTup_l, isTup_t, isNone_n, isNone_i, isNone_l, isNone_t, Bool.not_true, Bool.not_false, Bool.true_and, Bool.and_true, Bool.false_or, Bool.or_false, List.length_map, List.length_cons, List.length_nil, decide_eq_true_eq, decide_eq_false_iff_not, Bool.and_eq_true, Bool.or_eq_true, Bool.and_eq_false_iff, Bool.or_eq_false_iff, Bool.not_eq_true', Bool.not_eq_false', Bool.not_eq_true, Bool.not_eq_false, bne_iff_ne, beq_iff_eq, ne_eq] at *; omega) | (simp; done) | (simp at *; omega)))) ?_)
      refine ⟨_, rfl, ?_⟩
      try dsimp only
      rw [List.length_take]
      omega
def pre_l_cell (ds : List PyData) (o : OT) : Prop := ∃ (draws0 : List Int) (k0 : Int), ds = [(eL eI) draws0, eI k0] ∧ (draws0 ≠ [] ∧ 0 ≤ k0) ∧ o = .leaf (eI (cellF draws0 k0))
theorem ok_l_cell {k : Nat} (F : Fd K "_law_cell" s_l_cell f fd) (B : Bl mg) : FnOk P w K mg base CX0 (k + 1) f fd ["draws", "k"] (SpD K pre_l_cell) := by
  refine fn_ok F sc_l_cell (fun ds o h => by obtain ⟨draws0, k0, rfl, hpre, rfl⟩ := h; rfl) fun cdv A outer s H E hr ds o h => ?_
  obtain ⟨draws0, k0, rfl, hpre, rfl⟩ := h
  have hlen : 0 < draws0.length := List.length_pos_iff.mpr hpre.1
  have hm1 := Int.emod_nonneg k0 (show (draws0.length : Int) ≠ 0 by omega)
  have hm2 := Int.emod_lt_of_pos k0 (show (0 : Int) < draws0.length by omega)
  have hm3 := Int.emod_nonneg (7 * k0) (show (draws0.length : Int) ≠ 0 by omega)
  have hm4 := Int.emod_lt_of_pos (7 * k0) (show (0 : Int) < draws0.length by omega)
  refine vk_cons (vs_if (vb_cmp (vc_lt (vn 1) (vlenE (vn 0).lsE B.b_len))) (fun hc0 => ?_) (fun hc0 => ?_))
  · skip
    try simp only [List.length_take, List.length_drop, List.length_append, parts_len, isInt_i, isInt_l, isInt_t, isBool_i, isBool_l, isBool_t, isList_i, isList_l, isList_t, isTup_i, isTup_l, isTup_t, isNone_n, isNone_i, isNone_l, isNone_t, Bool.not_true, Bool.not_false, Bool.true_and, Bool.and_true, Bool.false_or, Bool.or_false, List.length_map, List.length_cons, List.length_nil, decide_eq_true_eq, decide_eq_false_iff_not, Bool.and_eq_true, Bool.or_eq_true, Bool.and_eq_false_iff, Bool.or_eq_false_iff, Bool.not_eq_true', Bool.not_eq_false', Bool.not_eq_true, Bool.not_eq_false, bne_iff_ne, beq_iff_eq, ne_eq] at hc0
    refine vk_cons (vs_ret (vixE (0 : Int) (vn 0).lsE (vn 1) (by first | omega | assumption | (simp only [List.length_take, List.length_drop, List.length_append, parts_len, isInt_i, isInt_l, isInt_t, isBool_i, isBool_l, isBool_t, isList_i, isList_l, isList_t, isTup_i, isTup_l, isTup_t, isNone_n, isNone_i, isNone_l, isNone_t, Bool.not_true, Bool.not_false, Bool.true_and, Bool.and_true, Bool.false_or, Bool.or_false, List.length_map, List.length_cons, List.length_nil, decide_eq_true_eq, decide_eq_false_iff_not, Bool.and_eq_true, Bool.or_eq_true, Bool.and_eq_false_iff, Bool.or_eq_false_iff, Bool.not_eq_true', Bool.not_eq_false', Bool.not_eq_true, Bool.not_eq_false, bne_iff_ne, beq_iff_eq, ne_eq] at *; omega) | (simp; done) | (simp at *; omega))) ?_)
    refine congrArg (fun z => OT.leaf (eI z)) (?_ : _ = _)
    rw [cellF, if_pos hc0]
  · skip
    try simp only [List.length_take, List.length_drop, List.length_append, parts_len, isInt_i, isInt_l, isInt_t, isBool_i, isBool_l, isBool_t, isList_i, isList_l, isList_t, isTup_i, isTup_l, isTup_t, isNone_n, isNone_i, isNone_l, isNone_t, Bool.not_true, Bool.not_false, Bool.true_and, Bool.and_true, Bool.false_or, Bool.or_false, List.length_map, List.length_cons, List.length_nil, decide_eq_true_eq, decide_eq_false_iff_not, Bool.and_eq_true, Bool.or_eq_true, Bool.and_eq_false_iff, Bool.or_eq_false_iff, Bool.not_eq_true', Bool.not_eq_false', Bool.not_eq_true, Bool.not_eq_false, bne_iff_ne, beq_iff_eq, ne_eq] at hc0
    refine vk_nil ?_
    refine vk_cons (vs_ret (ve_mod (ve_add (ve_add (ve_mulS (vixE (0 : Int) (vn 0).lsE (ve_mod (vn 1) (vlenE (vn 0).lsE B.b_len) (by first | omega | assumption | (simp only [List.length_take, List.length_drop, List.length_append, parts_len, isInt_i, isInt_l, isInt_t, isBool_i, isBool_l, isBool_t, isList_i, isList_l, isList_t, isTup_i, isTup_l, isTup_t, isNone_n, isNone_i, isNone_l, isNone_t, Bool.not_true, Bool.not_false, Bool.true_and, Bool.and_true, Bool.false_or, Bool.or_false, List.length_map, List.length_cons, List.length_nil, decide_eq_true_eq, decide_eq_false_iff_not, Bool.and_eq_true, Bool.or_eq_true, Bool.and_eq_false_iff, Bool.or_eq_false_iff, Bool.not_eq_true', Bool.not_eq_false', Bool.not_eq_true, Bool.not_eq_false, bne_iff_ne, beq_iff_eq, ne_eq] at *; omega) | (simp; done) | (simp at *; omega))) (ixmod _ _ (by first | omega | assumption | (simp only [List.length_take, List.length_drop, List.length_append, parts_len, isInt_i, isInt_l, isInt_t, isBool_i, isBool_l, isBool_t, isList_i, isList_l, isList_t, isTup_i, isTup_l, isTup_t, isNone_n, isNone_i, isNone_l, isNone_t, Bool.not_true, Bool.not_false, Bool.true_and, Bool.and_true, Bool.false_or, Bool.or_false, List.length_map, List.length_cons, List.length_nil, decide_eq_true_eq, decide_eq_false_iff_not, Bool.and_eq_true, Bool.or_eq_true, Bool.and_eq_false_iff, Bool.or_eq_false_iff, Bool.not_eq_true', Bool.not_eq_false', Bool.not_eq_true, Bool.not_eq_false, bne_iff_ne, beq_iff_eq, ne_eq] at *; omega) | (simp; done) | (simp at *; omega)))) ve_int (by first | omega | assumption | (simp only [List.length_take, List.length_drop, List.length_append, parts_len, isInt_i, isInt_l, isInt_t, isBool_i, isBool_l, isBool_t, isList_i, isList_l, isList_t, isTup_i, isTup_l, isTup_t, isNone_n, isNone_i, isNone_l, isNone_t, Bool.not_true, Bool.not_false, Bool.true_and, Bool.and_true, Bool.false_or, Bool.or_false, List.length_map, List.length_cons, List.length_nil, decide_eq_true_eq, decide_eq_false_iff_not, Bool.and_eq_true, Bool.or_eq_true, Bool.and_eq_false_iff, Bool.or_eq_false_iff, Bool.not_eq_true', Bool.not_eq_false', Bool.not_eq_true, Bool.not_eq_false, bne_iff_ne, beq_iff_eq, ne_eq] at *; omega) | (simp; done) | (simp at *; omega))) (ve_mulS (vixE (0 : Int) (vn 0).lsE (ve_mod (ve_mulS ve_int (vn 1) (by first | omega | assumption | (simp only [List.length_take, List.length_drop, List.length_append, parts_len, isInt_i, isInt_l, isInt_t, isBool_i, isBool_l, isBool_t, isList_i, isList_l, isList_t, isTup_i, isTup_l, isTup_t, isNone_n, isNone_i, isNone_l, isNone_t, Bool.not_true, Bool.not_false, Bool.true_and, Bool.and_true, Bool.false_or, Bool.or_false, List.length_map, List.length_cons, List.length_nil, decide_eq_true_eq, decide_eq_false_iff_not, Bool.and_eq_true, Bool.or_eq_true, Bool.and_eq_false_iff, Bool.or_eq_false_iff, Bool.not_eq_true', Bool.not_eq_false', Bool.not_eq_true, Bool.not_eq_false, bne_iff_ne, beq_iff_eq, ne_eq] at *; omega) | (simp; done) | (simp at *; omega))) (vlenE (vn 0).lsE B.b_len) (by first | omega | assumption | (simp only [List.length_take, List.length_drop, List.length_append, parts_len, isInt_i, isInt_l, isInt_t, isBool_i, isBool_l, isBool_t, isList_i, isList_l, isList_t, isTup_i, isTup_l, isTup_t, isNone_n, isNone_i, isNone_l, isNone_t, Bool.not_true, Bool.not_false, Bool.true_and, Bool.and_true, Bool.false_or, Bool.or_false, List.length_map, List.length_cons, List.length_nil, decide_eq_true_eq, decide_eq_false_iff_not, Bool.and_eq_true, Bool.or_eq_true, Bool.and_eq_false_iff, Bool.or_eq_false_iff, Bool.not_eq_true', Bool.not_eq_false', Bool.not_eq_true, Bool.not_eq_false, bne_iff_ne, beq_iff_eq, ne_eq] at *; omega) | (simp; done) | (simp at *; omega))) (ixmod _ _ (by first | omega | assumption | (simp only [List.length_take, List.length_drop, List.length_append, parts_len, isInt_i, isInt_l, isInt_t, isBool_i, isBool_l, isBool_t, isList_i, isList_l, isList_t, isTup_i, isTup_l, isTup_t, isNone_n, isNone_i, isNone_l, isNone_t, Bool.not_true, Bool.not_false, Bool.true_and, Bool.and_true, Bool.false_or, Bool.or_false, List.length_map, List.length_cons, List.length_nil, decide_eq_true_eq, decide_eq_false_iff_not, Bool.and_eq_true, Bool.or_eq_true, Bool.and_eq_false_iff, Bool.or_eq_false_iff, Bool.not_eq_true', Bool.not_eq_false', Bool.not_eq_true, Bool.not_eq_false, bne_iff_ne, beq_iff_eq, ne_eq] at *; omega) | (simp; done) | (simp at *; omega)))) ve_int (by first | omega | assumption | (simp only [List.length_take, List.length_drop, List.length_append, parts_len, isInt_i, isInt_l, isInt_t, isBool_i, isBool_l, isBool_t, isList_i, isList_l, isList_t, isTup_i, isTup_l, isTup_t, isNone_n, isNone_i, isNone_l, isNone_t, Bool.not_true, Bool.not_false, Bool.true_and, Bool.and_true, Bool.false_or, Bool.or_false, List.length_map, List.length_cons, List.length_nil, decide_eq_true_eq, decide_eq_false_iff_not, Bool.and_eq_true, Bool.or_eq_true, Bool.and_eq_false_iff, Bool.or_eq_false_iff, Bool.not_eq_true', Bool.not_eq_false', Bool.not_eq_true, Bool.not_eq_false, bne_iff_ne, beq_iff_eq, ne_eq] at *; omega) | (simp; done) | (simp at *; omega)))) (ve_mulS ve_int (vn 1) (by first | omega | assumption | (simp only [List.length_take, List.length_drop, List.length_append, parts_len, isInt_i, isInt_l, isInt_t, isBool_i, isBool_l, isBool_t, isList_i, isList_l, isList_t, isTup_i, isTup_l, isTup_t, isNone_n, isNone_i, isNone_l, isNone_t, Bool.not_true, Bool.not_false, Bool.true_and, Bool.and_true, Bool.false_or, Bool.or_false, List.length_map, List.length_cons, List.length_nil, decide_eq_true_eq, decide_eq_false_iff_not, Bool.and_eq_true, Bool.or_eq_true, Bool.and_eq_false_iff, Bool.or_eq_false_iff, Bool.not_eq_true', Bool.not_eq_false', Bool.not_eq_true, Bool.not_eq_false, bne_iff_ne, beq_iff_eq, ne_eq] at *; omega) | (simp; done) | (simp at *; omega)))) ve_int (by first | omega | assumption | (simp only [List.length_take, List.length_drop, List.length_append, parts_len, isInt_i, isInt_l, isInt_t, isBool_i, isBool_l, isBool_t, isList_i, isList_l, isList_t, isTup_i, isTup_l, isTup_t, isNone_n, isNone_i, isNone_l, isNone_t, Bool.not_true, Bool.not_false, Bool.true_and, Bool.and_true, Bool.false_or, Bool.or_false, List.length_map, List.length_cons, List.length_nil, decide_eq_true_eq, decide_eq_false_iff_not, Bool.and_eq_true, Bool.or_eq_true, Bool.and_eq_false_iff, Bool.or_eq_false_iff, Bool.not_eq_true', Bool.not_eq_false', Bool.not_eq_true, Bool.not_eq_false, bne_iff_ne, beq_iff_eq, ne_eq] at *; omega) | (simp; done) | (simp at *; omega))) ?_)
    refine congrArg (fun z => OT.leaf (eI z)) (?_ : _ = _)
    rw [cellF, if_neg hc0]
def pre_l_is_number (ds : List PyData) (o : OT) : Prop := ∃ (value0 : Int), ds = [eI value0] ∧ o = .leaf (eB (true))
theorem ok_l_is_number {k : Nat} (F : Fd K "_law_is_number" s_l_is_number f fd) (B : Bl mg) : FnOk P w K mg base CX0 (k + 1) f fd ["value"] (SpD K pre_l_is_number) := by
  refine fn_ok F sc_l_is_number (fun ds o h => by obtain ⟨value0, rfl, rfl⟩ := h; rfl) fun cdv A outer s H E hr ds o h => ?_
  obtain ⟨value0, rfl, rfl⟩ := h
  refine vk_cons (vs_ret (ve_andV (vi_int (vn 0).v B.b_isinstance B.b_int) (fun hq1 => (ve_one (ve_notV (vi_bool (vn 0).v B.b_isinstance B.b_bool))))) ?_)
  refine congrArg (fun z => OT.leaf (eB z)) (?_ : _ = _)
  first | done | rfl | omega | (simp_all; done) | (simp_all; omega) -- ret return isinstance(value, int) and (not isinstance(value, bool))
def pre_l_gcd (ds : List PyData) (o : OT) : Prop := ∃ (first0 : Int) (second0 : Int), ds = [eI first0, eI second0] ∧ o = .leaf (eI ((Int.gcd first0 second0 : Int)))
theorem ok_l_gcd {k : Nat} (F : Fd K "_law_gcd" s_l_gcd f fd) (B : Bl mg) : FnOk P w K mg base CX0 (k + 1) f fd ["first", "second"] (SpD K pre_l_gcd) := by
  refine fn_ok F sc_l_gcd (fun ds o h => by obtain ⟨first0, second0, rfl, rfl⟩ := h; rfl) fun cdv A outer s H E hr ds o h => ?_
  obtain ⟨first0, second0, rfl, rfl⟩ := h
  refine vk_cons (vs_setG 0 eI (ve_abs (vn 0) B.b_abs) sc_l_gcd.nd fun first1 h_first1 => ?_)
  refine vk_cons (vs_setG 1 eI (ve_abs (vn 1) B.b_abs) sc_l_gcd.nd fun second1 h_second1 => ?_)
  refine vk_cons (vs_while (fun (m0 : Nat) Γ => ∃ (first2 : Int) (second2 : Int) (s_rest0 : Option OT), Γ = [some (.leaf (eI first2)), some (.leaf (eI second2)), s_rest0] ∧ m0 = second2.toNat ∧ (0 ≤ first2 ∧ 0 ≤ second2 ∧ Int.gcd first0 second0 = Int.gcd first2 second2)) ⟨_, first1, second1, none, rfl, rfl, ?_⟩ (fun m0 _ hw => ?_))
  · skip
    subst h_first1 h_second1
    refine ⟨by omega, by omega, ?_⟩
    split <;> split <;> simp
  · obtain ⟨first2, second2, s_rest0, rfl, rfl, ⟨hf, hs, hg⟩⟩ := hw
    refine ⟨_, (vb_cmp (vc_neI (vn 1) ve_int)), fun hc0 => ?_, fun hc0 => ?_⟩
    · skip
      try simp only [List.length_take, List.length_drop, List.length_append, parts_len, isInt_i, isInt_l, isInt_t, isBool_i, isBool_l, isBool_t, isList_i, isList_l, isList_t, isTup_i, isTup_l, isTup_t, isNone_n, isNone_i, isNone_l, isNone_t, Bool.not_true, Bool.not_false, Bool.true_and, Bool.and_true, Bool.false_or, Bool.or_false, List.length_map, List.length_cons, List.length_nil, decide_eq_true_eq, decide_eq_false_iff_not, Bool.and_eq_true, Bool.or_eq_true, Bool.and_eq_false_iff, Bool.or_eq_false_iff, Bool.not_eq_true', Bool.not_eq_false', Bool.not_eq_true, Bool.not_eq_false, bne_iff_ne, beq_iff_eq, ne_eq] at hc0
      refine vk_cons (vs_setG 2 eI (ve_mod (vn 0) (vn 1) (by first | omega | assumption | (simp only [List.length_take, List.length_drop, List.length_append, parts_len, isInt_i, isInt_l, isInt_t, isBool_i, isBool_l, isBool_t, isList_i, isList_l, isList_t, isTup_i, isTup_l, isTup_t, isNone_n, isNone_i, isNone_l, isNone_t, Bool.not_true, Bool.not_false, Bool.true_and, Bool.and_true, Bool.false_or, Bool.or_false, List.length_map, List.length_cons, List.length_nil, decide_eq_true_eq, decide_eq_false_iff_not, Bool.and_eq_true, Bool.or_eq_true, Bool.and_eq_false_iff, Bool.or_eq_false_iff, Bool.not_eq_true', Bool.not_eq_false', Bool.not_eq_true, Bool.not_eq_false, bne_iff_ne, beq_iff_eq, ne_eq] at *; omega) | (simp; done) | (simp at *; omega))) sc_l_gcd.nd fun rest0 h_rest0 => ?_)
      refine vk_cons (vs_setG 0 eI (vn 1) sc_l_gcd.nd fun first3 h_first3 => ?_)
      refine vk_cons (vs_setG 1 eI (vn 2) sc_l_gcd.nd fun second3 h_second3 => ?_)
      refine vk_nil ⟨_, ?_, first3, second3, some (.leaf (eI rest0)), rfl, rfl, ?_⟩
      · skip
        have := Int.emod_lt_of_pos first2 (show 0 < second2 by omega)
        have := Int.emod_nonneg first2 hc0
        subst h_second3 h_rest0
        omega
      · skip
        subst h_first3 h_second3 h_rest0
        refine ⟨hs, Int.emod_nonneg _ hc0, ?_⟩
        rw [hg, Int.emod_def, Int.gcd_sub_mul_left_right, Int.gcd_comm]
    · skip
      try simp only [List.length_take, List.length_drop, List.length_append, parts_len, isInt_i, isInt_l, isInt_t, isBool_i, isBool_l, isBool_t, isList_i, isList_l, isList_t, isTup_i, isTup_l, isTup_t, isNone_n, isNone_i, isNone_l, isNone_t, Bool.not_true, Bool.not_false, Bool.true_and, Bool.and_true, Bool.false_or, Bool.or_false, List.length_map, List.length_cons, List.length_nil, decide_eq_true_eq, decide_eq_false_iff_not, Bool.and_eq_true, Bool.or_eq_true, Bool.and_eq_false_iff, Bool.or_eq_false_iff, Bool.not_eq_true', Bool.not_eq_false', Bool.not_eq_true, Bool.not_eq_false, bne_iff_ne, beq_iff_eq, ne_eq] at hc0
      refine vk_cons (vs_ret (vn 0) ?_)
      refine congrArg (fun z => OT.leaf (eI z)) (?_ : _ = _)
      have hz : second2 = 0 := by omega
      subst hz
      rw [hg]
      simp
      omega
def pre_l_is_pair (ds : List PyData) (o : OT) : Prop := ∃ (value0 : (Int × Int)), ds = [(e2 eI eI) value0] ∧ o = .leaf (eB (true))
theorem ok_l_is_pair {k : Nat} (F : Fd K "_law_is_pair" s_l_is_pair f fd) (B : Bl mg) (C_l_is_number : Cal P w K mg base k "_law_is_number" 1 (SpD K pre_l_is_number)) : FnOk P w K mg base CX0 (k + 1) f fd ["value"] (SpD K pre_l_is_pair) := by
  refine fn_ok F sc_l_is_pair (fun ds o h => by obtain ⟨value0, rfl, rfl⟩ := h; rfl) fun cdv A outer s H E hr ds o h => ?_
  obtain ⟨value0, rfl, rfl⟩ := h
  refine vk_cons (vs_ret (ve_andV (vi_tuple (vn 0).v B.b_isinstance B.b_tuple) (fun hq3 => (ve_andV (ve_cmp (vc_eqI (ve_lenT (vn 0).v B.b_len) ve_int)) (fun hq2 => (ve_andV (ve_call C_l_is_number hr (va_cons (vfst (vn 0) ve_int) va_nil) ⟨_, rfl, rfl⟩) (fun hq1 => (ve_one (ve_call C_l_is_number hr (va_cons (vsnd (vn 0) ve_int) va_nil) ⟨_, rfl, rfl⟩)))))))) ?_)
  refine congrArg (fun z => OT.leaf (eB z)) (?_ : _ = _)
  first | done | rfl | omega | (simp_all; done) | (simp_all; omega) -- ret return isinstance(value, tuple) and len(value) == 2 and _law_is_number(value[0]) and _law_is_number(value[1])
def pre_l_is_class (ds : List PyData) (o : OT) : Prop := ∃ (value0 : (Int × Int)), ds = [(e2 eI eI) value0] ∧ (Ok value0) ∧ o = .leaf (eB (true))
theorem ok_l_is_class {k : Nat} (F : Fd K "_law_is_class" s_l_is_class f fd) (B : Bl mg) (C_l_is_pair : Cal P w K mg base k "_law_is_pair" 1 (SpD K pre_l_is_pair)) : FnOk P w K mg base CX0 (k + 1) f fd ["value"] (SpD K pre_l_is_class) := by
  refine fn_ok F sc_l_is_class (fun ds o h => by obtain ⟨value0, rfl, hpre, rfl⟩ := h; rfl) fun cdv A outer s H E hr ds o h => ?_
  obtain ⟨value0, rfl, hpre, rfl⟩ := h
  refine vk_cons (vs_ret (ve_andV (ve_call C_l_is_pair hr (va_cons (vn 0) va_nil) ⟨_, rfl, rfl⟩) (fun hq3 => (ve_andV (ve_cmp (vc_ge (vsnd (vn 0) ve_int) ve_int)) (fun hq2 => (ve_andV (ve_cmp (vc_le ve_int (vfst (vn 0) ve_int))) (fun hq1 => (ve_one (ve_cmp (vc_lt (vfst (vn 0) ve_int) (vsnd (vn 0) ve_int)))))))))) ?_)
  refine congrArg (fun z => OT.leaf (eB z)) (?_ : _ = _)
  obtain ⟨a, b, c⟩ := hpre
  simp [a, b, c]
def pre_l_is_classes (ds : List PyData) (o : OT) : Prop := ∃ (value0 : List (Int × Int)), ds = [(eL (e2 eI eI)) value0] ∧ (value0 ≠ [] ∧ value0.length < 100000 ∧ (∀ p ∈ value0, Ok p) ∧ Srt value0) ∧ o = .leaf (eB (true))
theorem ok_l_is_classes {k : Nat} (F : Fd K "_law_is_classes" s_l_is_classes f fd) (B : Bl mg) (C_l_is_class : Cal P w K mg base k "_law_is_class" 1 (SpD K pre_l_is_class)) : FnOk P w K mg base CX0 (k + 1) f fd ["value"] (SpD K pre_l_is_classes) := by
  refine fn_ok F sc_l_is_classes (fun ds o h => by obtain ⟨value0, rfl, ⟨hne, hz, hok, hs⟩, rfl⟩ := h; rfl) fun cdv A outer s H E hr ds o h => ?_
  obtain ⟨value0, rfl, ⟨hne, hz, hok, hs⟩, rfl⟩ := h
  have hgm : ∀ i : Int, 0 ≤ i ∧ i.toNat < value0.length → Ok (value0.getD i.toNat (0, 0)) := fun i hi => hok _ (getD_mem hi.2 _)
  refine vk_cons (vs_if (VW.tb (vw_or (vb_not (vb_val (vi_lst (vn 0).v B.b_isinstance B.b_list))) (fun hq1 => (vw_or1 (vb_cmp (vc_eqI (vlenE (vn 0).lsE B.b_len) ve_int)))))) (fun hc0 => ?_) (fun hc0 => ?_))
  · skip
    try simp only [List.length_take, List.length_drop, List.length_append, parts_len, isInt_i, isInt_l, isInt_t, isBool_i, isBool_l, isBool_t, isList_i, isList_l, isList_t, isTup_i, isTup_l, isTup_t, isNone_n, isNone_i, isNone_l, isNone_t, Bool.not_true, Bool.not_false, Bool.true_and, Bool.and_true, Bool.false_or, Bool.or_false, List.length_map, List.length_cons, List.length_nil, decide_eq_true_eq, decide_eq_false_iff_not, Bool.and_eq_true, Bool.or_eq_true, Bool.and_eq_false_iff, Bool.or_eq_false_iff, Bool.not_eq_true', Bool.not_eq_false', Bool.not_eq_true, Bool.not_eq_false, bne_iff_ne, beq_iff_eq, ne_eq] at hc0
    refine vk_cons (vs_ret ve_bl ?_)
    refine congrArg (fun z => OT.leaf (eB z)) (?_ : _ = _)
    simp_all
  · skip
    try simp only [List.length_take, List.length_drop, List.length_append, parts_len, isInt_i, isInt_l, isInt_t, isBool_i, isBool_l, isBool_t, isList_i, isList_l, isList_t, isTup_i, isTup_l, isTup_t, isNone_n, isNone_i, isNone_l, isNone_t, Bool.not_true, Bool.not_false, Bool.true_and, Bool.and_true, Bool.false_or, Bool.or_false, List.length_map, List.length_cons, List.length_nil, decide_eq_true_eq, decide_eq_false_iff_not, Bool.and_eq_true, Bool.or_eq_true, Bool.and_eq_false_iff, Bool.or_eq_false_iff, Bool.not_eq_true', Bool.not_eq_false', Bool.not_eq_true, Bool.not_eq_false, bne_iff_ne, beq_iff_eq, ne_eq] at hc0
    refine vk_nil ?_
    refine vk_cons (vs_forR 1 (fun (m0 : Nat) Γ => ∃ (s_k0 : Option OT), Γ = [some (.leaf ((eL (e2 eI eI)) value0)), s_k0] ∧ (True)) (fun _ => (vi_rng1 (vlenE (vn 0).lsE B.b_len) (by first | omega | assumption | (simp only [List.length_take, List.length_drop, List.length_append, parts_len, isInt_i, isInt_l, isInt_t, isBool_i, isBool_l, isBool_t, isList_i, isList_l, isList_t, isTup_i, isTup_l, isTup_t, isNone_n, isNone_i, isNone_l, isNone_t, Bool.not_true, Bool.not_false, Bool.true_and, Bool.and_true, Bool.false_or, Bool.or_false, List.length_map, List.length_cons, List.length_nil, decide_eq_true_eq, decide_eq_false_iff_not, Bool.and_eq_true, Bool.or_eq_true, Bool.and_eq_false_iff, Bool.or_eq_false_iff, Bool.not_eq_true', Bool.not_eq_false', Bool.not_eq_true, Bool.not_eq_false, bne_iff_ne, beq_iff_eq, ne_eq] at *; omega) | (simp; done) | (simp at *; omega)) B.b_range)) sc_l_is_classes.nd ⟨none, rfl, ?_⟩ (fun m0 k0 _ hx0 hw0 hw => ?_) (fun _ hw => ?_))
    · skip
      trivial
    · obtain ⟨s_k0, rfl, _⟩ := hw
      refine vk_cons (vs_if (VW.tb (vw_or (vb_not (vb_val (ve_call C_l_is_class hr (va_cons (vixE ((0 : Int), (0 : Int)) (vn 0).lsE (vn 1) (by first | omega | assumption | (simp only [List.length_take, List.length_drop, List.length_append, parts_len, isInt_i, isInt_l, isInt_t, isBool_i, isBool_l, isBool_t, isList_i, isList_l, isList_t, isTup_i, isTup_l, isTup_t, isNone_n, isNone_i, isNone_l, isNone_t, Bool.not_true, Bool.not_false, Bool.true_and, Bool.and_true, Bool.false_or, Bool.or_false, List.length_map, List.length_cons, List.length_nil, decide_eq_true_eq, decide_eq_false_iff_not, Bool.and_eq_true, Bool.or_eq_true, Bool.and_eq_false_iff, Bool.or_eq_false_iff, Bool.not_eq_true', Bool.not_eq_false', Bool.not_eq_true, Bool.not_eq_false, bne_iff_ne, beq_iff_eq, ne_eq] at *; omega) | (simp; done) | (simp at *; omega))) va_nil) ⟨_, rfl, (hgm _ ⟨by omega, by omega⟩), rfl⟩))) (fun hq3 => (vw_or1 (VW.tb (vw_and (vb_cmp (vc_gt (vn 1) ve_int)) (fun hq2 => (vw_and1 (vb_cmp (vc_geP (roomy hr) (vixE ((0 : Int), (0 : Int)) (vn 0).lsE (ve_sub (vn 1) ve_int) (by first | omega | assumption | (simp only [List.length_take, List.length_drop, List.length_append, parts_len, isInt_i, isInt_l, isInt_t, isBool_i, isBool_l, isBool_t, isList_i, isList_l, isList_t, isTup_i, isTup_l, isTup_t, isNone_n, isNone_i, isNone_l, isNone_t, Bool.not_true, Bool.not_false, Bool.true_and, Bool.and_true, Bool.false_or, Bool.or_false, List.length_map, List.length_cons, List.length_nil, decide_eq_true_eq, decide_eq_false_iff_not, Bool.and_eq_true, Bool.or_eq_true, Bool.and_eq_false_iff, Bool.or_eq_false_iff, Bool.not_eq_true', Bool.not_eq_false', Bool.not_eq_true, Bool.not_eq_false, bne_iff_ne, beq_iff_eq, ne_eq] at *; omega) | (simp; done) | (simp at *; omega))).v (vixE ((0 : Int), (0 : Int)) (vn 0).lsE (vn 1) (by first | omega | assumption | (simp only [List.length_take, List.length_drop, List.length_append, parts_len, isInt_i, isInt_l, isInt_t, isBool_i, isBool_l, isBool_t, isList_i, isList_l, isList_t, isTup_i, isTup_l, isTup_t, isNone_n, isNone_i, isNone_l, isNone_t, Bool.not_true, Bool.not_false, Bool.true_and, Bool.and_true, Bool.false_or, Bool.or_false, List.length_map, List.length_cons, List.length_nil, decide_eq_true_eq, decide_eq_false_iff_not, Bool.and_eq_true, Bool.or_eq_true, Bool.and_eq_false_iff, Bool.or_eq_false_iff, Bool.not_eq_true', Bool.not_eq_false', Bool.not_eq_true, Bool.not_eq_false, bne_iff_ne, beq_iff_eq, ne_eq] at *; omega) | (simp; done) | (simp at *; omega))).v)))))))))) (fun hc1 => ?_) (fun hc1 => ?_))
      · skip
        try simp only [List.length_take, List.length_drop, List.length_append, parts_len, isInt_i, isInt_l, isInt_t, isBool_i, isBool_l, isBool_t, isList_i, isList_l, isList_t, isTup_i, isTup_l, isTup_t, isNone_n, isNone_i, isNone_l, isNone_t, Bool.not_true, Bool.not_false, Bool.true_and, Bool.and_true, Bool.false_or, Bool.or_false, List.length_map, List.length_cons, List.length_nil, decide_eq_true_eq, decide_eq_false_iff_not, Bool.and_eq_true, Bool.or_eq_true, Bool.and_eq_false_iff, Bool.or_eq_false_iff, Bool.not_eq_true', Bool.not_eq_false', Bool.not_eq_true, Bool.not_eq_false, bne_iff_ne, beq_iff_eq, ne_eq] at hc1
        refine vk_cons (vs_ret ve_bl ?_)
        refine congrArg (fun z => OT.leaf (eB z)) (?_ : _ = _)
        have := hs.at (i := k0.toNat) (by omega) (by omega) (0, 0)
        have e : (k0 - 1).toNat = k0.toNat - 1 := by omega
        simp_all
      · skip
        try simp only [List.length_take, List.length_drop, List.length_append, parts_len, isInt_i, isInt_l, isInt_t, isBool_i, isBool_l, isBool_t, isList_i, isList_l, isList_t, isTup_i, isTup_l, isTup_t, isNone_n, isNone_i, isNone_l, isNone_t, Bool.not_true, Bool.not_false, Bool.true_and, Bool.and_true, Bool.false_or, Bool.or_false, List.length_map, List.length_cons, List.length_nil, decide_eq_true_eq, decide_eq_false_iff_not, Bool.and_eq_true, Bool.or_eq_true, Bool.and_eq_false_iff, Bool.or_eq_false_iff, Bool.not_eq_true', Bool.not_eq_false', Bool.not_eq_true, Bool.not_eq_false, bne_iff_ne, beq_iff_eq, ne_eq] at hc1
        refine vk_nil ?_
        refine vk_nil ⟨some (.leaf (eI k0)), rfl, ?_⟩
        trivial
    · obtain ⟨s_k0, rfl, _⟩ := hw
      refine vk_cons (vs_ret ve_bl ?_)
      refine congrArg (fun z => OT.leaf (eB z)) (?_ : _ = _)
      first | done | rfl | omega | (simp_all; done) | (simp_all; omega) -- ret return True
def pre_l_meets (ds : List PyData) (o : OT) : Prop := ∃ (first0 : (Int × Int)) (second0 : (Int × Int)), ds = [(e2 eI eI) first0, (e2 eI eI) second0] ∧ (0 < first0.2 ∧ 0 < second0.2) ∧ o = .leaf (eB (meetB first0 second0))
theorem ok_l_meets {k : Nat} (F : Fd K "_law_meets" s_l_meets f fd) (B : Bl mg) (C_l_gcd : Cal P w K mg base k "_law_gcd" 2 (SpD K pre_l_gcd)) : FnOk P w K mg base CX0 (k + 1) f fd ["first", "second"] (SpD K pre_l_meets) := by
  refine fn_ok F sc_l_meets (fun ds o h => by obtain ⟨first0, second0, rfl, hpre, rfl⟩ := h; rfl) fun cdv A outer s H E hr ds o h => ?_
  obtain ⟨first0, second0, rfl, hpre, rfl⟩ := h
  have hgp : 0 < ((Int.gcd first0.2 second0.2 : Nat) : Int) := by have := Int.gcd_pos_of_ne_zero_left second0.2 (show first0.2 ≠ 0 by omega); omega
  refine vk_cons (vs_ret (ve_cmp (vc_eqI (ve_mod (ve_sub (vfst (vn 0) ve_int) (vfst (vn 1) ve_int)) (ve_call C_l_gcd hr (va_cons (vsnd (vn 0) ve_int) (va_cons (vsnd (vn 1) ve_int) va_nil)) ⟨_, _, rfl, rfl⟩) (by first | omega | assumption | (simp only [List.length_take, List.length_drop, List.length_append, parts_len, isInt_i, isInt_l, isInt_t, isBool_i, isBool_l, isBool_t, isList_i, isList_l, isList_t, isTup_i, isTup_l, isTup_t, isNone_n, isNone_i, isNone_l, isNone_t, Bool.not_true, Bool.not_false, Bool.true_and, Bool.and_true, Bool.false_or, Bool.or_false, List.length_map, List.length_cons, List.length_nil, decide_eq_true_eq, decide_eq_false_iff_not, Bool.and_eq_true, Bool.or_eq_true, Bool.and_eq_false_iff, Bool.or_eq_false_iff, Bool.not_eq_true', Bool.not_eq_false', Bool.not_eq_true, Bool.not_eq_false, bne_iff_ne, beq_iff_eq, ne_eq] at *; omega) | (simp; done) | (simp at *; omega))) ve_int)) ?_)
  refine congrArg (fun z => OT.leaf (eB z)) (?_ : _ = _)
  first | done | rfl | omega | (simp_all; done) | (simp_all; omega) -- ret return (first[0] - second[0]) % _law_gcd(first[1], second[1]) == 0
def pre_l_round (ds : List PyData) (o : OT) : Prop := ∃ (classes0 : List (Int × Int)), ds = [(eL (e2 eI eI)) classes0] ∧ (∀ p ∈ classes0, Ok p ∧ p.2 < 10000000000000) ∧ o = .leaf (eI (rnd classes0))
theorem ok_l_round {k : Nat} (F : Fd K "_law_round" s_l_round f fd) (B : Bl mg) (C_l_gcd : Cal P w K mg base k "_law_gcd" 2 (SpD K pre_l_gcd)) : FnOk P w K mg base CX0 (k + 1) f fd ["classes"] (SpD K pre_l_round) := by
  refine fn_ok F sc_l_round (fun ds o h => by obtain ⟨classes0, rfl, hpre, rfl⟩ := h; rfl) fun cdv A outer s H E hr ds o h => ?_
  obtain ⟨classes0, rfl, hpre, rfl⟩ := h
  refine vk_cons (vs_setG 1 eI ve_int sc_l_round.nd fun total0 h_total0 => ?_)
  refine vk_cons (vs_for2 2 3 (fun (m0 : Nat) Γ => ∃ (total1 : Int) (s_offset0 : Option OT) (s_period0 : Option OT), Γ = [some (.leaf ((eL (e2 eI eI)) classes0)), some (.leaf (eI total1)), s_offset0, s_period0] ∧ (total1 = (classes0.take m0).foldl lcmF 1 ∧ 0 < total1)) (fun _ => (vi_list (vn 0))) sc_l_round.nd (na_cons 2 (na_cons 3 na_nil)) ⟨total0, none, none, rfl, ?_⟩ (fun m0 offset0 period0 _ hx0 hw => ?_) (fun _ hw => ?_))
  · skip
    subst h_total0
    exact ⟨rfl, by decide⟩
  · obtain ⟨total1, s_offset0, s_period0, rfl, ⟨ht, hq⟩⟩ := hw
    obtain ⟨⟨o1, o2, o3⟩, o4⟩ := hpre _ (List.mem_of_getElem? hx0)
    simp only at o1 o2 o3 o4
    have hgp : 0 < ((Int.gcd total1 period0 : Nat) : Int) := by have := Int.gcd_pos_of_ne_zero_left period0 (show total1 ≠ 0 by omega); omega
    have hgl : ((Int.gcd total1 period0 : Nat) : Int) ≤ period0 := Int.le_of_dvd (by omega) (Int.gcd_dvd_right _ _)
    refine vk_cons (vs_setG 1 eI (ve_fdivB (ve_mulS (vn 1) (vn 3) (by first | omega | assumption | (simp only [List.length_take, List.length_drop, List.length_append, parts_len, isInt_i, isInt_l, isInt_t, isBool_i, isBool_l, isBool_t, isList_i, isList_l, isList_t, isTup_i, isTup_l, isTup_t, isNone_n, isNone_i, isNone_l, isNone_t, Bool.not_true, Bool.not_false, Bool.true_and, Bool.and_true, Bool.false_or, Bool.or_false, List.length_map, List.length_cons, List.length_nil, decide_eq_true_eq, decide_eq_false_iff_not, Bool.and_eq_true, Bool.or_eq_true, Bool.and_eq_false_iff, Bool.or_eq_false_iff, Bool.not_eq_true', Bool.not_eq_false', Bool.not_eq_true, Bool.not_eq_false, bne_iff_ne, beq_iff_eq, ne_eq] at *; omega) | (simp; done) | (simp at *; omega))) (ve_call C_l_gcd hr (va_cons (vn 1) (va_cons (vn 3) va_nil)) ⟨_, _, rfl, rfl⟩) (by first | omega | assumption | (simp only [List.length_take, List.length_drop, List.length_append, parts_len, isInt_i, isInt_l, isInt_t, isBool_i, isBool_l, isBool_t, isList_i, isList_l, isList_t, isTup_i, isTup_l, isTup_t, isNone_n, isNone_i, isNone_l, isNone_t, Bool.not_true, Bool.not_false, Bool.true_and, Bool.and_true, Bool.false_or, Bool.or_false, List.length_map, List.length_cons, List.length_nil, decide_eq_true_eq, decide_eq_false_iff_not, Bool.and_eq_true, Bool.or_eq_true, Bool.and_eq_false_iff, Bool.or_eq_false_iff, Bool.not_eq_true', Bool.not_eq_false', Bool.not_eq_true, Bool.not_eq_false, bne_iff_ne, beq_iff_eq, ne_eq] at *; omega) | (simp; done) | (simp at *; omega))) sc_l_round.nd fun total2 h_total2 => ?_)
    refine vk_nil ⟨total2, some (.leaf (eI offset0)), some (.leaf (eI period0)), rfl, ?_⟩
    have hl := lcmF_facts (t := total1) (p := (offset0, period0)) hq o1
    have e : total2 = lcmF total1 (offset0, period0) := by rw [h_total2]; first | rfl | exact rnd_alt (p := (offset0, period0))
    rw [e]
    exact ⟨by rw [take_succ_of hx0, List.foldl_append, ← ht]; rfl, hl.1⟩
  · obtain ⟨total1, s_offset0, s_period0, rfl, ⟨ht, hq⟩⟩ := hw
    refine vk_cons (vs_ret (vn 1) ?_)
    refine congrArg (fun z => OT.leaf (eI z)) (?_ : _ = _)
    rw [ht, List.take_length]
    rfl
def pre_l_is_parting (ds : List PyData) (o : OT) : Prop := ∃ (value0 : List (Int × Int)), ds = [(eL (e2 eI eI)) value0] ∧ (Part value0 ∧ Srt value0 ∧ value0.length < 100000 ∧ (∀ p ∈ value0, p.2 < 10000000000000)) ∧ o = .leaf (eB (true))
theorem ok_l_is_parting {k : Nat} (F : Fd K "_law_is_parting" s_l_is_parting f fd) (B : Bl mg) (C_l_is_classes : Cal P w K mg base k "_law_is_classes" 1 (SpD K pre_l_is_classes)) (C_l_meets : Cal P w K mg base k "_law_meets" 2 (SpD K pre_l_meets)) (C_l_round : Cal P w K mg base k "_law_round" 1 (SpD K pre_l_round)) : FnOk P w K mg base CX0 (k + 1) f fd ["value"] (SpD K pre_l_is_parting) := by
  refine fn_ok F sc_l_is_parting (fun ds o h => by obtain ⟨value0, rfl, ⟨hp, hs, hz, hb⟩, rfl⟩ := h; rfl) fun cdv A outer s H E hr ds o h => ?_
  obtain ⟨value0, rfl, ⟨hp, hs, hz, hb⟩, rfl⟩ := h
  have hap : ∀ i j : Int, 0 ≤ i → i < j → j.toNat < value0.length → meetB (value0.getD i.toNat (0, 0)) (value0.getD j.toNat (0, 0)) = false := fun i j h0 h1 h2 => apart_at hp.apart h0 h1 h2
  have hpo : ∀ i : Int, i.toNat < value0.length → 0 < (value0.getD i.toNat (0, 0)).2 := fun i hi => by have := (hp.ok _ (getD_mem hi (0, 0))).1; omega
  have hpp : ∀ p ∈ value0, Ok p ∧ p.2 < 10000000000000 := fun p hm => ⟨hp.ok p hm, hb p hm⟩
  refine vk_cons (vs_if (vb_not (vb_val (ve_call C_l_is_classes hr (va_cons (vn 0) va_nil) ⟨_, rfl, ⟨hp.ne, hz, hp.ok, hs⟩, rfl⟩))) (fun hc0 => ?_) (fun hc0 => ?_))
  · skip
    try simp only [List.length_take, List.length_drop, List.length_append, parts_len, isInt_i, isInt_l, isInt_t, isBool_i, isBool_l, isBool_t, isList_i, isList_l, isList_t, isTup_i, isTup_l, isTup_t, isNone_n, isNone_i, isNone_l, isNone_t, Bool.not_true, Bool.not_false, Bool.true_and, Bool.and_true, Bool.false_or, Bool.or_false, List.length_map, List.length_cons, List.length_nil, decide_eq_true_eq, decide_eq_false_iff_not, Bool.and_eq_true, Bool.or_eq_true, Bool.and_eq_false_iff, Bool.or_eq_false_iff, Bool.not_eq_true', Bool.not_eq_false', Bool.not_eq_true, Bool.not_eq_false, bne_iff_ne, beq_iff_eq, ne_eq] at hc0
    refine vk_cons (vs_ret ve_bl ?_)
    refine congrArg (fun z => OT.leaf (eB z)) (?_ : _ = _)
    simp_all
  · skip
    try simp only [List.length_take, List.length_drop, List.length_append, parts_len, isInt_i, isInt_l, isInt_t, isBool_i, isBool_l, isBool_t, isList_i, isList_l, isList_t, isTup_i, isTup_l, isTup_t, isNone_n, isNone_i, isNone_l, isNone_t, Bool.not_true, Bool.not_false, Bool.true_and, Bool.and_true, Bool.false_or, Bool.or_false, List.length_map, List.length_cons, List.length_nil, decide_eq_true_eq, decide_eq_false_iff_not, Bool.and_eq_true, Bool.or_eq_true, Bool.and_eq_false_iff, Bool.or_eq_false_iff, Bool.not_eq_true', Bool.not_eq_false', Bool.not_eq_true, Bool.not_eq_false, bne_iff_ne, beq_iff_eq, ne_eq] at hc0
    refine vk_nil ?_
    refine vk_cons (vs_forR 1 (fun (m0 : Nat) Γ => ∃ (s_k0 : Option OT) (s_j0 : Option OT), Γ = [some (.leaf ((eL (e2 eI eI)) value0)), s_k0, s_j0, none, none, none] ∧ (True)) (fun _ => (vi_rng1 (vlenE (vn 0).lsE B.b_len) (by first | omega | assumption | (simp only [List.length_take, List.length_drop, List.length_append, parts_len, isInt_i, isInt_l, isInt_t, isBool_i, isBool_l, isBool_t, isList_i, isList_l, isList_t, isTup_i, isTup_l, isTup_t, isNone_n, isNone_i, isNone_l, isNone_t, Bool.not_true, Bool.not_false, Bool.true_and, Bool.and_true, Bool.false_or, Bool.or_false, List.length_map, List.length_cons, List.length_nil, decide_eq_true_eq, decide_eq_false_iff_not, Bool.and_eq_true, Bool.or_eq_true, Bool.and_eq_false_iff, Bool.or_eq_false_iff, Bool.not_eq_true', Bool.not_eq_false', Bool.not_eq_true, Bool.not_eq_false, bne_iff_ne, beq_iff_eq, ne_eq] at *; omega) | (simp; done) | (simp at *; omega)) B.b_range)) sc_l_is_parting.nd ⟨none, none, rfl, ?_⟩ (fun m0 k0 _ hx0 hw0 hw => ?_) (fun _ hw => ?_))
    · skip
      trivial
    · obtain ⟨s_k0, s_j0, rfl, _⟩ := hw
      refine vk_cons (vs_forR 2 (fun (m1 : Nat) Γ => ∃ (s_j1 : Option OT), Γ = [some (.leaf ((eL (e2 eI eI)) value0)), some (.leaf (eI k0)), s_j1, none, none, none] ∧ (True)) (fun _ => (vi_rng1 (vn 1) (by first | omega | assumption | (simp only [List.length_take, List.length_drop, List.length_append, parts_len, isInt_i, isInt_l, isInt_t, isBool_i, isBool_l, isBool_t, isList_i, isList_l, isList_t, isTup_i, isTup_l, isTup_t, isNone_n, isNone_i, isNone_l, isNone_t, Bool.not_true, Bool.not_false, Bool.true_and, Bool.and_true, Bool.false_or, Bool.or_false, List.length_map, List.length_cons, List.length_nil, decide_eq_true_eq, decide_eq_false_iff_not, Bool.and_eq_true, Bool.or_eq_true, Bool.and_eq_false_iff, Bool.or_eq_false_iff, Bool.not_eq_true', Bool.not_eq_false', Bool.not_eq_true, Bool.not_eq_false, bne_iff_ne, beq_iff_eq, ne_eq] at *; omega) | (simp; done) | (simp at *; omega)) B.b_range)) sc_l_is_parting.nd ⟨s_j0, rfl, ?_⟩ (fun m1 j0 _ hx1 hw1 hw => ?_) (fun _ hw => ?_))
      · skip
        trivial
      · obtain ⟨s_j1, rfl, _⟩ := hw
        refine vk_cons (vs_if (vb_val (ve_call C_l_meets hr (va_cons (vixE ((0 : Int), (0 : Int)) (vn 0).lsE (vn 2) (by first | omega | assumption | (simp only [List.length_take, List.length_drop, List.length_append, parts_len, isInt_i, isInt_l, isInt_t, isBool_i, isBool_l, isBool_t, isList_i, isList_l, isList_t, isTup_i, isTup_l, isTup_t, isNone_n, isNone_i, isNone_l, isNone_t, Bool.not_true, Bool.not_false, Bool.true_and, Bool.and_true, Bool.false_or, Bool.or_false, List.length_map, List.length_cons, List.length_nil, decide_eq_true_eq, decide_eq_false_iff_not, Bool.and_eq_true, Bool.or_eq_true, Bool.and_eq_false_iff, Bool.or_eq_false_iff, Bool.not_eq_true', Bool.not_eq_false', Bool.not_eq_true, Bool.not_eq_false, bne_iff_ne, beq_iff_eq, ne_eq] at *; omega) | (simp; done) | (simp at *; omega))) (va_cons (vixE ((0 : Int), (0 : Int)) (vn 0).lsE (vn 1) (by first | omega | assumption | (simp only [List.length_take, List.length_drop, List.length_append, parts_len, isInt_i, isInt_l, isInt_t, isBool_i, isBool_l, isBool_t, isList_i, isList_l, isList_t, isTup_i, isTup_l, isTup_t, isNone_n, isNone_i, isNone_l, isNone_t, Bool.not_true, Bool.not_false, Bool.true_and, Bool.and_true, Bool.false_or, Bool.or_false, List.length_map, List.length_cons, List.length_nil, decide_eq_true_eq, decide_eq_false_iff_not, Bool.and_eq_true, Bool.or_eq_true, Bool.and_eq_false_iff, Bool.or_eq_false_iff, Bool.not_eq_true', Bool.not_eq_false', Bool.not_eq_true, Bool.not_eq_false, bne_iff_ne, beq_iff_eq, ne_eq] at *; omega) | (simp; done) | (simp at *; omega))) va_nil)) ⟨_, _, rfl, ⟨hpo _ (by omega), hpo _ (by omega)⟩, rfl⟩)) (fun hc1 => ?_) (fun hc1 => ?_))
        · skip
          try simp only [List.length_take, List.length_drop, List.length_append, parts_len, isInt_i, isInt_l, isInt_t, isBool_i, isBool_l, isBool_t, isList_i, isList_l, isList_t, isTup_i, isTup_l, isTup_t, isNone_n, isNone_i, isNone_l, isNone_t, Bool.not_true, Bool.not_false, Bool.true_and, Bool.and_true, Bool.false_or, Bool.or_false, List.length_map, List.length_cons, List.length_nil, decide_eq_true_eq, decide_eq_false_iff_not, Bool.and_eq_true, Bool.or_eq_true, Bool.and_eq_false_iff, Bool.or_eq_false_iff, Bool.not_eq_true', Bool.not_eq_false', Bool.not_eq_true, Bool.not_eq_false, bne_iff_ne, beq_iff_eq, ne_eq] at hc1
          refine vk_cons (vs_ret ve_bl ?_)
          refine congrArg (fun z => OT.leaf (eB z)) (?_ : _ = _)
          have := hap j0 k0 (by omega) (by omega) (by omega)
          simp_all
        · skip
          try simp only [List.length_take, List.length_drop, List.length_append, parts_len, isInt_i, isInt_l, isInt_t, isBool_i, isBool_l, isBool_t, isList_i, isList_l, isList_t, isTup_i, isTup_l, isTup_t, isNone_n, isNone_i, isNone_l, isNone_t, Bool.not_true, Bool.not_false, Bool.true_and, Bool.and_true, Bool.false_or, Bool.or_false, List.length_map, List.length_cons, List.length_nil, decide_eq_true_eq, decide_eq_false_iff_not, Bool.and_eq_true, Bool.or_eq_true, Bool.and_eq_false_iff, Bool.or_eq_false_iff, Bool.not_eq_true', Bool.not_eq_false', Bool.not_eq_true, Bool.not_eq_false, bne_iff_ne, beq_iff_eq, ne_eq] at hc1
          refine vk_nil ?_
          refine vk_nil ⟨some (.leaf (eI j0)), rfl, ?_⟩
          trivial
      · obtain ⟨s_j1, rfl, _⟩ := hw
        refine vk_nil ⟨some (.leaf (eI k0)), s_j1, rfl, ?_⟩
        trivial
    · obtain ⟨s_k0, s_j0, rfl, _⟩ := hw
      refine vk_cons (vs_setG 3 eI (ve_call C_l_round hr (va_cons (vn 0) va_nil) ⟨_, rfl, hpp, rfl⟩) sc_l_is_parting.nd fun total0 h_total0 => ?_)
      refine vk_cons (vs_ret (ve_cmp (vc_eqI (ve_sum rfl (vlcE [("offset", 4), ("period", 5)] (e2 eI eI) eI (vi_list (vn 0)).cc (no_cons (no_none rfl) (no_cons (no_none rfl) no_nil)) (fun _ _ _ _ _ => vg_tup rfl sc_l_is_parting.nd (na_cons 4 (na_cons 5 na_nil))) (by simp) (by simp) (by omega) sc_l_is_parting.nd (blkOk_by (show blkC N_l_is_parting (defScope s_l_is_parting) _ _ = true by decide +kernel)) (fun xa hxa => have o1 := (hpp _ hxa).1.1; have o2 := (hpp _ hxa).2; ⟨_, rfl, fun _ _ _ _ _ => ⟨vts_nil, fun hxp => (ve_fdivB (vn 3) (vn 5) (by first | omega | assumption | (simp only [List.length_take, List.length_drop, List.length_append, parts_len, isInt_i, isInt_l, isInt_t, isBool_i, isBool_l, isBool_t, isList_i, isList_l, isList_t, isTup_i, isTup_l, isTup_t, isNone_n, isNone_i, isNone_l, isNone_t, Bool.not_true, Bool.not_false, Bool.true_and, Bool.and_true, Bool.false_or, Bool.or_false, List.length_map, List.length_cons, List.length_nil, decide_eq_true_eq, decide_eq_false_iff_not, Bool.and_eq_true, Bool.or_eq_true, Bool.and_eq_false_iff, Bool.or_eq_false_iff, Bool.not_eq_true', Bool.not_eq_false', Bool.not_eq_true, Bool.not_eq_false, bne_iff_ne, beq_iff_eq, ne_eq] at *; omega) | (simp; done) | (simp at *; omega)))⟩⟩)).vl.vE B.b_sum) (vn 3))) ?_)
      refine congrArg (fun z => OT.leaf (eB z)) (?_ : _ = _)
      rw [filter_true]
      subst h_total0
      exact decide_eq_true hp.fill
def pre_l_split (ds : List PyData) (o : OT) : Prop := ∃ (classes0 : List (Int × Int)) (at0 : Int) (times0 : Int), ds = [(eL (e2 eI eI)) classes0, eI at0, eI times0] ∧ (0 ≤ at0 ∧ at0.toNat < classes0.length ∧ 1 ≤ times0 ∧ times0 < 10000 ∧ classes0.length < 200000) ∧ o = .lst (lfs (List.map (e2 eI eI) (splitL classes0 at0.toNat times0)))
theorem ok_l_split {k : Nat} (F : Fd K "_law_split" s_l_split f fd) (B : Bl mg) : FnOk P w K mg base CX0 (k + 1) f fd ["classes", "at", "times"] (SpD K pre_l_split) := by
  refine fn_ok F sc_l_split (fun ds o h => by obtain ⟨classes0, at0, times0, rfl, ⟨ha0, ha1, ht0, ht1, hz⟩, rfl⟩ := h; rfl) fun cdv A outer s H E hr ds o h => ?_
  obtain ⟨classes0, at0, times0, rfl, ⟨ha0, ha1, ht0, ht1, hz⟩, rfl⟩ := h
  refine vk_cons (vs_asg2 3 4 (vixE ((0 : Int), (0 : Int)) (vn 0).lsE (vn 1) (by first | omega | assumption | (simp only [List.length_take, List.length_drop, List.length_append, parts_len, isInt_i, isInt_l, isInt_t, isBool_i, isBool_l, isBool_t, isList_i, isList_l, isList_t, isTup_i, isTup_l, isTup_t, isNone_n, isNone_i, isNone_l, isNone_t, Bool.not_true, Bool.not_false, Bool.true_and, Bool.and_true, Bool.false_or, Bool.or_false, List.length_map, List.length_cons, List.length_nil, decide_eq_true_eq, decide_eq_false_iff_not, Bool.and_eq_true, Bool.or_eq_true, Bool.and_eq_false_iff, Bool.or_eq_false_iff, Bool.not_eq_true', Bool.not_eq_false', Bool.not_eq_true, Bool.not_eq_false, bne_iff_ne, beq_iff_eq, ne_eq] at *; omega) | (simp; done) | (simp at *; omega))) sc_l_split.nd (na_cons 3 (na_cons 4 na_nil)) fun offset0 period0 h_offset0 => ?_)
  refine vk_cons (vs_setLcE 5 [("k", 6)] eI (e2 eI eI) (vi_rg (vi_rng1 (vn 2) (by first | omega | assumption | (simp only [List.length_take, List.length_drop, List.length_append, parts_len, isInt_i, isInt_l, isInt_t, isBool_i, isBool_l, isBool_t, isList_i, isList_l, isList_t, isTup_i, isTup_l, isTup_t, isNone_n, isNone_i, isNone_l, isNone_t, Bool.not_true, Bool.not_false, Bool.true_and, Bool.and_true, Bool.false_or, Bool.or_false, List.length_map, List.length_cons, List.length_nil, decide_eq_true_eq, decide_eq_false_iff_not, Bool.and_eq_true, Bool.or_eq_true, Bool.and_eq_false_iff, Bool.or_eq_false_iff, Bool.not_eq_true', Bool.not_eq_false', Bool.not_eq_true, Bool.not_eq_false, bne_iff_ne, beq_iff_eq, ne_eq] at *; omega) | (simp; done) | (simp at *; omega)) B.b_range)).cc (no_cons (no_none rfl) no_nil) (fun _ _ _ _ _ => vg_name 6 sc_l_split.nd) (by simp) (by simp) (by first | omega | assumption | (simp only [List.length_take, List.length_drop, List.length_append, parts_len, isInt_i, isInt_l, isInt_t, isBool_i, isBool_l, isBool_t, isList_i, isList_l, isList_t, isTup_i, isTup_l, isTup_t, isNone_n, isNone_i, isNone_l, isNone_t, Bool.not_true, Bool.not_false, Bool.true_and, Bool.and_true, Bool.false_or, Bool.or_false, List.length_map, List.length_cons, List.length_nil, decide_eq_true_eq, decide_eq_false_iff_not, Bool.and_eq_true, Bool.or_eq_true, Bool.and_eq_false_iff, Bool.or_eq_false_iff, Bool.not_eq_true', Bool.not_eq_false', Bool.not_eq_true, Bool.not_eq_false, bne_iff_ne, beq_iff_eq, ne_eq] at *; omega) | (simp; done) | (simp at *; omega)) sc_l_split.nd (blkOk_by (show blkC N_l_split (defScope s_l_split) _ _ = true by decide +kernel)) (fun xa hxa =>  ⟨_, rfl, fun _ _ _ _ _ => ⟨vts_nil, fun hxp => (vtup2 (ea := eI) (eb := eI) (ve_add (vn 3) (ve_mulS (vn 6) (vn 4) (by first | omega | assumption | (simp only [List.length_take, List.length_drop, List.length_append, parts_len, isInt_i, isInt_l, isInt_t, isBool_i, isBool_l, isBool_t, isList_i, isList_l, isList_t, isTup_i, isTup_l, isTup_t, isNone_n, isNone_i, isNone_l, isNone_t, Bool.not_true, Bool.not_false, Bool.true_and, Bool.and_true, Bool.false_or, Bool.or_false, List.length_map, List.length_cons, List.length_nil, decide_eq_true_eq, decide_eq_false_iff_not, Bool.and_eq_true, Bool.or_eq_true, Bool.and_eq_false_iff, Bool.or_eq_false_iff, Bool.not_eq_true', Bool.not_eq_false', Bool.not_eq_true, Bool.not_eq_false, bne_iff_ne, beq_iff_eq, ne_eq] at *; omega) | (simp; done) | (simp at *; omega)))) (ve_mulS (vn 2) (vn 4) (by first | omega | assumption | (simp only [List.length_take, List.length_drop, List.length_append, parts_len, isInt_i, isInt_l, isInt_t, isBool_i, isBool_l, isBool_t, isList_i, isList_l, isList_t, isTup_i, isTup_l, isTup_t, isNone_n, isNone_i, isNone_l, isNone_t, Bool.not_true, Bool.not_false, Bool.true_and, Bool.and_true, Bool.false_or, Bool.or_false, List.length_map, List.length_cons, List.length_nil, decide_eq_true_eq, decide_eq_false_iff_not, Bool.and_eq_true, Bool.or_eq_true, Bool.and_eq_false_iff, Bool.or_eq_false_iff, Bool.not_eq_true', Bool.not_eq_false', Bool.not_eq_true, Bool.not_eq_false, bne_iff_ne, beq_iff_eq, ne_eq] at *; omega) | (simp; done) | (simp at *; omega))))⟩⟩) fun parts0 h_parts0 => ?_)
  refine vk_frz 5 rfl ?_
  have e_parts : parts0 = parts (offset0, period0) times0 := by
    rw [h_parts0, filter_true, List.map_map]
    refine List.map_congr_left fun k _ => ?_
    simp
  have hpl : parts0.length = times0.toNat := by rw [e_parts, parts_len]
  refine vk_cons (vs_ret (ve_sortE (roomy hr) seP (vcatE (vcatE (vslE (vn 0).lsE vp_none (vp_some (vn 1)) (cutD_to _ _ (by first | omega | assumption | (simp only [List.length_take, List.length_drop, List.length_append, parts_len, isInt_i, isInt_l, isInt_t, isBool_i, isBool_l, isBool_t, isList_i, isList_l, isList_t, isTup_i, isTup_l, isTup_t, isNone_n, isNone_i, isNone_l, isNone_t, Bool.not_true, Bool.not_false, Bool.true_and, Bool.and_true, Bool.false_or, Bool.or_false, List.length_map, List.length_cons, List.length_nil, decide_eq_true_eq, decide_eq_false_iff_not, Bool.and_eq_true, Bool.or_eq_true, Bool.and_eq_false_iff, Bool.or_eq_false_iff, Bool.not_eq_true', Bool.not_eq_false', Bool.not_eq_true, Bool.not_eq_false, bne_iff_ne, beq_iff_eq, ne_eq] at *; omega) | (simp; done) | (simp at *; omega)))).vl (vslE (vn 0).lsE (vp_some (ve_add (vn 1) ve_int)) vp_none (cutD_from _ _ (by first | omega | assumption | (simp only [List.length_take, List.length_drop, List.length_append, parts_len, isInt_i, isInt_l, isInt_t, isBool_i, isBool_l, isBool_t, isList_i, isList_l, isList_t, isTup_i, isTup_l, isTup_t, isNone_n, isNone_i, isNone_l, isNone_t, Bool.not_true, Bool.not_false, Bool.true_and, Bool.and_true, Bool.false_or, Bool.or_false, List.length_map, List.length_cons, List.length_nil, decide_eq_true_eq, decide_eq_false_iff_not, Bool.and_eq_true, Bool.or_eq_true, Bool.and_eq_false_iff, Bool.or_eq_false_iff, Bool.not_eq_true', Bool.not_eq_false', Bool.not_eq_true, Bool.not_eq_false, bne_iff_ne, beq_iff_eq, ne_eq] at *; omega) | (simp; done) | (simp at *; omega)))).vl (by first | omega | assumption | (simp only [List.length_take, List.length_drop, List.length_append, parts_len, isInt_i, isInt_l, isInt_t, isBool_i, isBool_l, isBool_t, isList_i, isList_l, isList_t, isTup_i, isTup_l, isTup_t, isNone_n, isNone_i, isNone_l, isNone_t, Bool.not_true, Bool.not_false, Bool.true_and, Bool.and_true, Bool.false_or, Bool.or_false, List.length_map, List.length_cons, List.length_nil, decide_eq_true_eq, decide_eq_false_iff_not, Bool.and_eq_true, Bool.or_eq_true, Bool.and_eq_false_iff, Bool.or_eq_false_iff, Bool.not_eq_true', Bool.not_eq_false', Bool.not_eq_true, Bool.not_eq_false, bne_iff_ne, beq_iff_eq, ne_eq] at *; omega) | (simp; done) | (simp at *; omega))).vl (vn 5).lsE (by first | omega | assumption | (simp only [List.length_take, List.length_drop, List.length_append, parts_len, isInt_i, isInt_l, isInt_t, isBool_i, isBool_l, isBool_t, isList_i, isList_l, isList_t, isTup_i, isTup_l, isTup_t, isNone_n, isNone_i, isNone_l, isNone_t, Bool.not_true, Bool.not_false, Bool.true_and, Bool.and_true, Bool.false_or, Bool.or_false, List.length_map, List.length_cons, List.length_nil, decide_eq_true_eq, decide_eq_false_iff_not, Bool.and_eq_true, Bool.or_eq_true, Bool.and_eq_false_iff, Bool.or_eq_false_iff, Bool.not_eq_true', Bool.not_eq_false', Bool.not_eq_true, Bool.not_eq_false, bne_iff_ne, beq_iff_eq, ne_eq] at *; omega) | (simp; done) | (simp at *; omega))).vl B.b_sorted) ?_)
  refine congrArg (fun z => OT.lst (lfs (List.map (e2 eI eI) z))) (?_ : _ = _)
  rw [splitL, ← h_offset0, show (at0 + 1).toNat = at0.toNat + 1 by omega, e_parts]
end
end My

namespace My
open PySem PySem.Spec PyProof.Rows L2 V3
section
variable {P : Program} {w : World} {K : Fg} {mg : Str → Option Value} {base : Heap} {f : Addr} {fd : FuncData}
def pre_l_splits (os : List OT) (P : OT → Prop) : Prop := ∃ (draws0 : List Int) (at0 : Int) (many0 : Int) (most0 : Int), os = [.leaf ((eL eI) draws0), .leaf (eI at0), .leaf (eI many0), .leaf (eI most0)] ∧ (draws0 ≠ [] ∧ 0 ≤ at0 ∧ 0 ≤ many0 ∧ many0 < 1000 ∧ 1 ≤ most0 ∧ most0 < 100000) ∧ P = (someD (e2 (eL (e2 eI eI)) (eL (e3 eI eI eI))) fun res => Part res.1 ∧ res.1.length ≤ 40 ∧ (∀ p ∈ res.1, p.2 ≤ most0) ∧ Srt res.1 ∧ Big res.1)
theorem ok_l_splits {k : Nat} (F : Fd K "_law_splits" s_l_splits f fd) (B : Bl mg) (C_l_cell : Cal P w K mg base k "_law_cell" 2 (SpD K pre_l_cell)) (C_l_split : Cal P w K mg base k "_law_split" 3 (SpD K pre_l_split)) : FnOk P w K mg base CX0 (k + 1) f fd ["draws", "at", "many", "most"] (SpN K pre_l_splits) := by
  refine fn_okN F sc_l_splits (fun ds o h => by obtain ⟨draws0, at0, many0, most0, rfl, ⟨hd, ha, hm0, hm1, hw0, hw1⟩, rfl⟩ := h; rfl) fun cdv A outer s H E hr ds o h => ?_
  obtain ⟨draws0, at0, many0, most0, rfl, ⟨hd, ha, hm0, hm1, hw0, hw1⟩, rfl⟩ := h
  refine vk_cons (vs_setG 4 (eL (e2 eI eI)) (vdispE (vae_cons (vtup2 (ea := eI) (eb := eI) ve_int ve_int) (vae_nil (e2 eI eI)))).frzE sc_l_splits.nd fun classes0 h_classes0 => ?_)
  refine vk_cons (vs_setO 5 (e3 eI eI eI) (vdispE (vae_nil _)) sc_l_splits.nd fun steps0 h_steps0 => ?_)
  refine vk_cons (vs_forR 6 (fun (m0 : Nat) Γ => ∃ (classes1 : List (Int × Int)) (steps1 : List (Int × Int × Int)) (s_k0 : Option OT) (s_cell0 : Option OT) (s_place0 : Option OT) (s_prime0 : Option OT), Γ = [some (.leaf ((eL eI) draws0)), some (.leaf (eI at0)), some (.leaf (eI many0)), some (.leaf (eI most0)), some (.leaf ((eL (e2 eI eI)) classes1)), some (.lst (lfs (steps1.map (e3 eI eI eI)))), s_k0, s_cell0, s_place0, s_prime0] ∧ (Part classes1 ∧ classes1.length ≤ 40 ∧ (∀ p ∈ classes1, p.2 ≤ most0) ∧ steps1.length ≤ m0 ∧ Srt classes1 ∧ Big classes1)) (fun _ => (vi_rng1 (vn 2) (by first | omega | assumption | (simp only [List.length_take, List.length_drop, List.length_append, parts_len, isInt_i, isInt_l, isInt_t, isBool_i, isBool_l, isBool_t, isList_i, isList_l, isList_t, isTup_i, isTup_l, isTup_t, isNone_n, isNone_i, isNone_l, isNone_t, Bool.not_true, Bool.not_false, Bool.true_and, Bool.and_true, Bool.false_or, Bool.or_false, List.length_map, List.length_cons, List.length_nil, decide_eq_true_eq, decide_eq_false_iff_not, Bool.and_eq_true, Bool.or_eq_true, Bool.and_eq_false_iff, Bool.or_eq_false_iff, Bool.not_eq_true', Bool.not_eq_false', Bool.not_eq_true, Bool.not_eq_false, bne_iff_ne, beq_iff_eq, ne_eq] at *; omega) | (simp; done) | (simp at *; omega)) B.b_range)) sc_l_splits.nd ⟨classes0, steps0, none, none, none, none, rfl, ?_⟩ (fun m0 k0 _ hx0 hw0 hw => ?_) (fun _ hw => ?_))
  · skip
    subst h_classes0 h_steps0
    refine ⟨one_part, by decide, fun p hp => ?_, by simp, List.pairwise_singleton _ _, one_big⟩
    cases List.mem_singleton.mp hp
    exact hw0
  · obtain ⟨classes1, steps1, s_k0, s_cell0, s_place0, s_prime0, rfl, ⟨hp, hl, hb, hs, hsr, hB⟩⟩ := hw
    have hlen : 0 < classes1.length := List.length_pos_iff.mpr hp.ne
    refine vk_cons (vs_setG 7 eI (ve_call C_l_cell hr (va_cons (vn 0) (va_cons (ve_add (vn 1) (vn 6)) va_nil)) ⟨_, _, rfl, ⟨hd, by omega⟩, rfl⟩) sc_l_splits.nd fun cell0 h_cell0 => ?_)
    refine vk_cons (vs_setG 8 eI (ve_mod (vn 7) (vlenE (vn 4).lsE B.b_len) (by first | omega | assumption | (simp only [List.length_take, List.length_drop, List.length_append, parts_len, isInt_i, isInt_l, isInt_t, isBool_i, isBool_l, isBool_t, isList_i, isList_l, isList_t, isTup_i, isTup_l, isTup_t, isNone_n, isNone_i, isNone_l, isNone_t, Bool.not_true, Bool.not_false, Bool.true_and, Bool.and_true, Bool.false_or, Bool.or_false, List.length_map, List.length_cons, List.length_nil, decide_eq_true_eq, decide_eq_false_iff_not, Bool.and_eq_true, Bool.or_eq_true, Bool.and_eq_false_iff, Bool.or_eq_false_iff, Bool.not_eq_true', Bool.not_eq_false', Bool.not_eq_true, Bool.not_eq_false, bne_iff_ne, beq_iff_eq, ne_eq] at *; omega) | (simp; done) | (simp at *; omega))) sc_l_splits.nd fun place0 h_place0 => ?_)
    have hpl : 0 ≤ place0 ∧ place0.toNat < classes1.length := by rw [h_place0]; exact ixmod _ _ hlen
    refine vk_cons (vs_setG 9 eI (vixE (0 : Int) (vdispE (vae_cons ve_int (vae_cons ve_int (vae_cons ve_int (vae_cons ve_int (vae_cons ve_int (vae_cons ve_int (vae_cons ve_int (vae_nil eI))))))))).vl (ve_mod (ve_fdivB (vn 7) ve_int (by first | omega | assumption | (simp only [List.length_take, List.length_drop, List.length_append, parts_len, isInt_i, isInt_l, isInt_t, isBool_i, isBool_l, isBool_t, isList_i, isList_l, isList_t, isTup_i, isTup_l, isTup_t, isNone_n, isNone_i, isNone_l, isNone_t, Bool.not_true, Bool.not_false, Bool.true_and, Bool.and_true, Bool.false_or, Bool.or_false, List.length_map, List.length_cons, List.length_nil, decide_eq_true_eq, decide_eq_false_iff_not, Bool.and_eq_true, Bool.or_eq_true, Bool.and_eq_false_iff, Bool.or_eq_false_iff, Bool.not_eq_true', Bool.not_eq_false', Bool.not_eq_true, Bool.not_eq_false, bne_iff_ne, beq_iff_eq, ne_eq] at *; omega) | (simp; done) | (simp at *; omega))) ve_int (by first | omega | assumption | (simp only [List.length_take, List.length_drop, List.length_append, parts_len, isInt_i, isInt_l, isInt_t, isBool_i, isBool_l, isBool_t, isList_i, isList_l, isList_t, isTup_i, isTup_l, isTup_t, isNone_n, isNone_i, isNone_l, isNone_t, Bool.not_true, Bool.not_false, Bool.true_and, Bool.and_true, Bool.false_or, Bool.or_false, List.length_map, List.length_cons, List.length_nil, decide_eq_true_eq, decide_eq_false_iff_not, Bool.and_eq_true, Bool.or_eq_true, Bool.and_eq_false_iff, Bool.or_eq_false_iff, Bool.not_eq_true', Bool.not_eq_false', Bool.not_eq_true, Bool.not_eq_false, bne_iff_ne, beq_iff_eq, ne_eq] at *; omega) | (simp; done) | (simp at *; omega))) (by first | omega | assumption | (simp only [List.length_take, List.length_drop, List.length_append, parts_len, isInt_i, isInt_l, isInt_t, isBool_i, isBool_l, isBool_t, isList_i, isList_l, isList_t, isTup_i, isTup_l, isTup_t, isNone_n, isNone_i, isNone_l, isNone_t, Bool.not_true, Bool.not_false, Bool.true_and, Bool.and_true, Bool.false_or, Bool.or_false, List.length_map, List.length_cons, List.length_nil, decide_eq_true_eq, decide_eq_false_iff_not, Bool.and_eq_true, Bool.or_eq_true, Bool.and_eq_false_iff, Bool.or_eq_false_iff, Bool.not_eq_true', Bool.not_eq_false', Bool.not_eq_true, Bool.not_eq_false, bne_iff_ne, beq_iff_eq, ne_eq] at *; omega) | (simp; done) | (simp at *; omega))) sc_l_splits.nd fun prime0 h_prime0 => ?_)
    have hpr : 2 ≤ prime0 ∧ prime0 ≤ 7 := by rw [h_prime0]; exact primes_in _
    refine vk_cons (vs_if (VW.tb (vw_and (vb_cmp (vc_le (ve_mulS (vsnd (vixE ((0 : Int), (0 : Int)) (vn 4).lsE (vn 8) hpl) ve_int) (vn 9) (by first | omega | assumption | (simp only [List.length_take, List.length_drop, List.length_append, parts_len, isInt_i, isInt_l, isInt_t, isBool_i, isBool_l, isBool_t, isList_i, isList_l, isList_t, isTup_i, isTup_l, isTup_t, isNone_n, isNone_i, isNone_l, isNone_t, Bool.not_true, Bool.not_false, Bool.true_and, Bool.and_true, Bool.false_or, Bool.or_false, List.length_map, List.length_cons, List.length_nil, decide_eq_true_eq, decide_eq_false_iff_not, Bool.and_eq_true, Bool.or_eq_true, Bool.and_eq_false_iff, Bool.or_eq_false_iff, Bool.not_eq_true', Bool.not_eq_false', Bool.not_eq_true, Bool.not_eq_false, bne_iff_ne, beq_iff_eq, ne_eq] at *; omega) | (simp; done) | (simp at *; omega))) (vn 3))) (fun hq1 => (vw_and1 (vb_cmp (vc_le (ve_sub (ve_add (vlenE (vn 4).lsE B.b_len) (vn 9)) ve_int) ve_int)))))) (fun hc0 => ?_) (fun hc0 => ?_))
    · skip
      try simp only [List.length_take, List.length_drop, List.length_append, parts_len, isInt_i, isInt_l, isInt_t, isBool_i, isBool_l, isBool_t, isList_i, isList_l, isList_t, isTup_i, isTup_l, isTup_t, isNone_n, isNone_i, isNone_l, isNone_t, Bool.not_true, Bool.not_false, Bool.true_and, Bool.and_true, Bool.false_or, Bool.or_false, List.length_map, List.length_cons, List.length_nil, decide_eq_true_eq, decide_eq_false_iff_not, Bool.and_eq_true, Bool.or_eq_true, Bool.and_eq_false_iff, Bool.or_eq_false_iff, Bool.not_eq_true', Bool.not_eq_false', Bool.not_eq_true, Bool.not_eq_false, bne_iff_ne, beq_iff_eq, ne_eq] at hc0
      refine vk_cons (vs_appE 5 (e3 eI eI eI) (vtup3 (ea := eI) (eb := eI) (ec := eI) (vfst (vixE ((0 : Int), (0 : Int)) (vn 4).lsE (vn 8) hpl) ve_int) (vsnd (vixE ((0 : Int), (0 : Int)) (vn 4).lsE (vn 8) hpl) ve_int) (vn 9)) ⟨_, rfl⟩ rfl (by first | omega | assumption | (simp only [List.length_take, List.length_drop, List.length_append, parts_len, isInt_i, isInt_l, isInt_t, isBool_i, isBool_l, isBool_t, isList_i, isList_l, isList_t, isTup_i, isTup_l, isTup_t, isNone_n, isNone_i, isNone_l, isNone_t, Bool.not_true, Bool.not_false, Bool.true_and, Bool.and_true, Bool.false_or, Bool.or_false, List.length_map, List.length_cons, List.length_nil, decide_eq_true_eq, decide_eq_false_iff_not, Bool.and_eq_true, Bool.or_eq_true, Bool.and_eq_false_iff, Bool.or_eq_false_iff, Bool.not_eq_true', Bool.not_eq_false', Bool.not_eq_true, Bool.not_eq_false, bne_iff_ne, beq_iff_eq, ne_eq] at *; omega) | (simp; done) | (simp at *; omega)) ?_)
      generalize h_steps2 : steps1 ++ [_] = steps2
      have hl_steps2 : steps2.length = steps1.length + 1 := by rw [← h_steps2, List.length_append]; rfl
      refine vk_cons (vs_setG 4 (eL (e2 eI eI)) (ve_call C_l_split hr (va_cons (vn 4) (va_cons (vn 8) (va_cons (vn 9) va_nil))) ⟨_, _, _, rfl, ⟨hpl.1, hpl.2, by omega, by omega, by omega⟩, rfl⟩).frzE sc_l_splits.nd fun classes2 h_classes2 => ?_)
      refine vk_nil ?_
      refine vk_nil ⟨classes2, steps2, some (.leaf (eI k0)), some (.leaf (eI cell0)), some (.leaf (eI place0)), some (.leaf (eI prime0)), rfl, ?_⟩
      have hsl := split_len (cs := classes1) (n := place0.toNat) (t := prime0) hpl.2
      rw [← h_classes2] at hsl
      refine ⟨by rw [h_classes2]; exact hp.split hpl.2 (by omega), by omega, ?_, by omega, by rw [h_classes2]; exact hp.splitSrt hpl.2 (by omega), by rw [h_classes2]; exact hB.split hp hpl.2 hpr.1⟩
      rw [h_classes2]
      exact split_le2 hpl.2 hb (by rw [Int.mul_comm]; exact hc0.1)
    · skip
      try simp only [List.length_take, List.length_drop, List.length_append, parts_len, isInt_i, isInt_l, isInt_t, isBool_i, isBool_l, isBool_t, isList_i, isList_l, isList_t, isTup_i, isTup_l, isTup_t, isNone_n, isNone_i, isNone_l, isNone_t, Bool.not_true, Bool.not_false, Bool.true_and, Bool.and_true, Bool.false_or, Bool.or_false, List.length_map, List.length_cons, List.length_nil, decide_eq_true_eq, decide_eq_false_iff_not, Bool.and_eq_true, Bool.or_eq_true, Bool.and_eq_false_iff, Bool.or_eq_false_iff, Bool.not_eq_true', Bool.not_eq_false', Bool.not_eq_true, Bool.not_eq_false, bne_iff_ne, beq_iff_eq, ne_eq] at hc0
      refine vk_nil ?_
      refine vk_nil ⟨classes1, steps1, some (.leaf (eI k0)), some (.leaf (eI cell0)), some (.leaf (eI place0)), some (.leaf (eI prime0)), rfl, ?_⟩
      exact ⟨hp, hl, hb, by omega, hsr, hB⟩
  · obtain ⟨classes1, steps1, s_k0, s_cell0, s_place0, s_prime0, rfl, ⟨hp, hl, hb, hs, hsr, hB⟩⟩ := hw
    refine vk_frz 5 rfl ?_
    refine vk_cons (vs_ret (vtup2 (ea := (eL (e2 eI eI))) (eb := (eL (e3 eI eI eI))) (vn 4) (vn 5)) ?_)
    refine ⟨_, rfl, ?_⟩
    try dsimp only
    exact ⟨hp, hl, hb, hsr, hB⟩
def pre_l_greedy (os : List OT) (P : OT → Prop) : Prop := ∃ (draws0 : List Int) (at0 : Int) (n0 : Int), os = [.leaf ((eL eI) draws0), .leaf (eI at0), .leaf (eI n0)] ∧ (draws0 ≠ [] ∧ 0 ≤ at0 ∧ 1 ≤ n0 ∧ n0 ≤ 100 ∧ n0.toNat ∈ smallR) ∧ P = (someD (eL (e2 eI eI)) fun res => Part res ∧ res.length ≤ 100 ∧ (∀ p ∈ res, p.2 ≤ 1000) ∧ Srt res ∧ Big res)
theorem ok_l_greedy {k : Nat} (F : Fd K "_law_greedy" s_l_greedy f fd) (B : Bl mg) (C_l_cell : Cal P w K mg base k "_law_cell" 2 (SpD K pre_l_cell)) : FnOk P w K mg base CX0 (k + 1) f fd ["draws", "at", "n"] (SpN K pre_l_greedy) := by
  refine fn_okN F sc_l_greedy (fun ds o h => by obtain ⟨draws0, at0, n0, rfl, ⟨hd, ha, hn0, hn1, hnR⟩, rfl⟩ := h; rfl) fun cdv A outer s H E hr ds o h => ?_
  obtain ⟨draws0, at0, n0, rfl, ⟨hd, ha, hn0, hn1, hnR⟩, rfl⟩ := h
  refine vk_cons (vs_setO 3 (eO eI) (vrepE (vdispE (vae_cons (show VD _ _ _ (eO eI none) from ve_non) (vae_nil (eO eI)))).vl (vn 2) (by first | omega | assumption | (simp only [List.length_take, List.length_drop, List.length_append, parts_len, isInt_i, isInt_l, isInt_t, isBool_i, isBool_l, isBool_t, isList_i, isList_l, isList_t, isTup_i, isTup_l, isTup_t, isNone_n, isNone_i, isNone_l, isNone_t, Bool.not_true, Bool.not_false, Bool.true_and, Bool.and_true, Bool.false_or, Bool.or_false, List.length_map, List.length_cons, List.length_nil, decide_eq_true_eq, decide_eq_false_iff_not, Bool.and_eq_true, Bool.or_eq_true, Bool.and_eq_false_iff, Bool.or_eq_false_iff, Bool.not_eq_true', Bool.not_eq_false', Bool.not_eq_true, Bool.not_eq_false, bne_iff_ne, beq_iff_eq, ne_eq] at *; omega) | (simp; done) | (simp at *; omega))) sc_l_greedy.nd fun owner0 h_owner0 => ?_)
  refine vk_cons (vs_setO 4 (e2 eI eI) (vdispE (vae_nil _)) sc_l_greedy.nd fun classes0 h_classes0 => ?_)
  refine vk_cons (vs_setLcE 5 [("k", 9)] eI eI (vi_rg (vi_rng2 ve_int (ve_add (vn 2) ve_int) (by first | omega | assumption | (simp only [List.length_take, List.length_drop, List.length_append, parts_len, isInt_i, isInt_l, isInt_t, isBool_i, isBool_l, isBool_t, isList_i, isList_l, isList_t, isTup_i, isTup_l, isTup_t, isNone_n, isNone_i, isNone_l, isNone_t, Bool.not_true, Bool.not_false, Bool.true_and, Bool.and_true, Bool.false_or, Bool.or_false, List.length_map, List.length_cons, List.length_nil, decide_eq_true_eq, decide_eq_false_iff_not, Bool.and_eq_true, Bool.or_eq_true, Bool.and_eq_false_iff, Bool.or_eq_false_iff, Bool.not_eq_true', Bool.not_eq_false', Bool.not_eq_true, Bool.not_eq_false, bne_iff_ne, beq_iff_eq, ne_eq] at *; omega) | (simp; done) | (simp at *; omega)) B.b_range)).cc (no_cons (no_none rfl) no_nil) (fun _ _ _ _ _ => vg_name 9 sc_l_greedy.nd) (by simp) (by simp) (by first | omega | assumption | (simp only [List.length_take, List.length_drop, List.length_append, parts_len, isInt_i, isInt_l, isInt_t, isBool_i, isBool_l, isBool_t, isList_i, isList_l, isList_t, isTup_i, isTup_l, isTup_t, isNone_n, isNone_i, isNone_l, isNone_t, Bool.not_true, Bool.not_false, Bool.true_and, Bool.and_true, Bool.false_or, Bool.or_false, List.length_map, List.length_cons, List.length_nil, decide_eq_true_eq, decide_eq_false_iff_not, Bool.and_eq_true, Bool.or_eq_true, Bool.and_eq_false_iff, Bool.or_eq_false_iff, Bool.not_eq_true', Bool.not_eq_false', Bool.not_eq_true, Bool.not_eq_false, bne_iff_ne, beq_iff_eq, ne_eq] at *; omega) | (simp; done) | (simp at *; omega)) sc_l_greedy.nd (blkOk_by (show blkC N_l_greedy (defScope s_l_greedy) _ _ = true by decide +kernel)) (fun xa hxa => have hk := mem_rg1 hxa; ⟨_, rfl, fun _ _ _ _ _ => ⟨(vts_one (vb_cmp (vc_eqI (ve_mod (vn 2) (vn 9) (by first | omega | assumption | (simp only [List.length_take, List.length_drop, List.length_append, parts_len, isInt_i, isInt_l, isInt_t, isBool_i, isBool_l, isBool_t, isList_i, isList_l, isList_t, isTup_i, isTup_l, isTup_t, isNone_n, isNone_i, isNone_l, isNone_t, Bool.not_true, Bool.not_false, Bool.true_and, Bool.and_true, Bool.false_or, Bool.or_false, List.length_map, List.length_cons, List.length_nil, decide_eq_true_eq, decide_eq_false_iff_not, Bool.and_eq_true, Bool.or_eq_true, Bool.and_eq_false_iff, Bool.or_eq_false_iff, Bool.not_eq_true', Bool.not_eq_false', Bool.not_eq_true, Bool.not_eq_false, bne_iff_ne, beq_iff_eq, ne_eq] at *; omega) | (simp; done) | (simp at *; omega))) ve_int))), fun hxp => (vn 9)⟩⟩) fun divisors0 h_divisors0 => ?_)
  refine vk_frz 5 rfl ?_
  have hdv : ∀ q : Int, q ∈ divisors0 ↔ 1 ≤ q ∧ q ≤ n0 ∧ n0 % q = 0 := by
    intro q
    rw [h_divisors0, List.map_id', List.mem_filter, List.mem_map, decide_eq_true_eq]
    constructor
    · rintro ⟨⟨k, hk, rfl⟩, h⟩
      have := List.mem_range.mp hk
      exact ⟨by omega, by omega, h⟩
    · rintro ⟨a, b, c⟩
      exact ⟨⟨(q - 1).toNat, List.mem_range.mpr (by omega), by omega⟩, c⟩
  refine vk_cons (vs_forR 6 (fun (m0 : Nat) Γ => ∃ (owner1 : List (Option Int)) (classes1 : List (Int × Int)) (s_day0 : Option OT) (s_periods0 : Option OT) (s_period0 : Option OT) (s_k0 : Option PyData), Γ = [some (.leaf ((eL eI) draws0)), some (.leaf (eI at0)), some (.leaf (eI n0)), some (.lst (lfs (owner1.map (eO eI)))), some (.lst (lfs (classes1.map (e2 eI eI)))), some (.leaf ((eL eI) divisors0)), s_day0, s_periods0, s_period0, Option.map OT.leaf s_k0] ∧ (Gr n0.toNat owner1 classes1 m0)) (fun _ => (vi_rng1 (vn 2) (by first | omega | assumption | (simp only [List.length_take, List.length_drop, List.length_append, parts_len, isInt_i, isInt_l, isInt_t, isBool_i, isBool_l, isBool_t, isList_i, isList_l, isList_t, isTup_i, isTup_l, isTup_t, isNone_n, isNone_i, isNone_l, isNone_t, Bool.not_true, Bool.not_false, Bool.true_and, Bool.and_true, Bool.false_or, Bool.or_false, List.length_map, List.length_cons, List.length_nil, decide_eq_true_eq, decide_eq_false_iff_not, Bool.and_eq_true, Bool.or_eq_true, Bool.and_eq_false_iff, Bool.or_eq_false_iff, Bool.not_eq_true', Bool.not_eq_false', Bool.not_eq_true, Bool.not_eq_false, bne_iff_ne, beq_iff_eq, ne_eq] at *; omega) | (simp; done) | (simp at *; omega)) B.b_range)) sc_l_greedy.nd ⟨owner0, classes0, none, none, none, none, rfl, ?_⟩ (fun m0 day0 _ hx0 hw0 hw => ?_) (fun _ hw => ?_))
  · skip
    subst h_owner0 h_classes0
    exact Gr.init _
  · obtain ⟨owner1, classes1, s_day0, s_periods0, s_period0, s_k0, rfl, hg⟩ := hw
    have hol := hg.len
    have hsz := hg.size
    refine vk_cons (vs_if (vb_cmp (vc_isN (vixE none (vo 3) (vn 6) (by first | omega | assumption | (simp only [List.length_take, List.length_drop, List.length_append, parts_len, isInt_i, isInt_l, isInt_t, isBool_i, isBool_l, isBool_t, isList_i, isList_l, isList_t, isTup_i, isTup_l, isTup_t, isNone_n, isNone_i, isNone_l, isNone_t, Bool.not_true, Bool.not_false, Bool.true_and, Bool.and_true, Bool.false_or, Bool.or_false, List.length_map, List.length_cons, List.length_nil, decide_eq_true_eq, decide_eq_false_iff_not, Bool.and_eq_true, Bool.or_eq_true, Bool.and_eq_false_iff, Bool.or_eq_false_iff, Bool.not_eq_true', Bool.not_eq_false', Bool.not_eq_true, Bool.not_eq_false, bne_iff_ne, beq_iff_eq, ne_eq] at *; omega) | (simp; done) | (simp at *; omega))).v)) (fun hc0 => ?_) (fun hc0 => ?_))
    · skip
      try simp only [List.length_take, List.length_drop, List.length_append, parts_len, isInt_i, isInt_l, isInt_t, isBool_i, isBool_l, isBool_t, isList_i, isList_l, isList_t, isTup_i, isTup_l, isTup_t, isNone_n, isNone_i, isNone_l, isNone_t, Bool.not_true, Bool.not_false, Bool.true_and, Bool.and_true, Bool.false_or, Bool.or_false, List.length_map, List.length_cons, List.length_nil, decide_eq_true_eq, decide_eq_false_iff_not, Bool.and_eq_true, Bool.or_eq_true, Bool.and_eq_false_iff, Bool.or_eq_false_iff, Bool.not_eq_true', Bool.not_eq_false', Bool.not_eq_true, Bool.not_eq_false, bne_iff_ne, beq_iff_eq, ne_eq] at hc0
      refine vk_cons (vs_setO 7 eI (vdispE (vae_nil _)) sc_l_greedy.nd fun periods0 h_periods0 => ?_)
      refine vk_cons (vs_forN (en := eI) 8 (fun (m1 : Nat) Γ => ∃ (periods1 : List Int) (s_period1 : Option OT), Γ = [some (.leaf ((eL eI) draws0)), some (.leaf (eI at0)), some (.leaf (eI n0)), some (.lst (lfs (owner1.map (eO eI)))), some (.lst (lfs (classes1.map (e2 eI eI)))), some (.leaf ((eL eI) divisors0)), some (.leaf (eI day0)), some (.lst (lfs (periods1.map eI))), s_period1, Option.map OT.leaf s_k0] ∧ ((∀ q ∈ periods1, GoodP n0 day0 owner1 q) ∧ (n0 ∈ divisors0.take m1 → periods1 ≠ []) ∧ periods1.length ≤ m1)) (fun _ => (vi_list (vn 5))) sc_l_greedy.nd ⟨periods0, s_period0, rfl, ?_⟩ (fun m1 period0 _ hx1 hw => ?_) (fun _ hw => ?_))
      · skip
        subst h_periods0
        exact ⟨fun q h => (by cases h), fun h => (by simp at h), by simp⟩
      · obtain ⟨periods1, s_period1, rfl, ⟨hgp, hne, hpl⟩⟩ := hw
        have hpp : 0 < period0 ∧ period0 ≤ n0 ∧ n0 % period0 = 0 := by
          obtain ⟨a, b, c⟩ := (hdv _).mp (List.mem_of_getElem? hx1)
          exact ⟨by omega, b, c⟩
        have hxl := (List.getElem?_eq_some_iff.mp hx1).1
        have hdl : divisors0.length ≤ 100 := by
          rw [h_divisors0, List.length_map]
          refine Nat.le_trans (List.length_filter_le _ _) ?_
          rw [List.length_map, List.length_range]
          omega
        refine vk_cons (vs_if (VW.tb (vw_and (vb_cmp (vc_lt (vn 6) (vn 8))) (fun hq1 => (vw_and1 (vb_cmp (veqE (en := (eL eI)) (roomy hr) (geL geI) (vlcE [("k", 9)] eI eI (vi_rg (vi_rng3 (vn 6) (vn 2) (vn 8) (rgc_up ⟨by omega, by omega⟩ ⟨by omega, by omega⟩ ⟨by omega, by omega⟩) B.b_range)).cc (no_cons (no_opt rfl) no_nil) (fun _ _ _ _ _ => vg_name 9 sc_l_greedy.nd) (by simp) (by simp) (by rw [List.length_map, List.length_range]; have := rgN_le hpp.1 (i := day0) (j := n0); omega) sc_l_greedy.nd (blkOk_by (show blkC N_l_greedy (defScope s_l_greedy) _ _ = true by decide +kernel)) (fun xa hxa => have hk := mem_rg3 hpp.1 hxa; ⟨_, rfl, fun _ _ _ _ _ => ⟨(vts_one (vb_cmp (vc_notN (vixE none (vo 3) (vn 9) (by first | omega | assumption | (simp only [List.length_take, List.length_drop, List.length_append, parts_len, isInt_i, isInt_l, isInt_t, isBool_i, isBool_l, isBool_t, isList_i, isList_l, isList_t, isTup_i, isTup_l, isTup_t, isNone_n, isNone_i, isNone_l, isNone_t, Bool.not_true, Bool.not_false, Bool.true_and, Bool.and_true, Bool.false_or, Bool.or_false, List.length_map, List.length_cons, List.length_nil, decide_eq_true_eq, decide_eq_false_iff_not, Bool.and_eq_true, Bool.or_eq_true, Bool.and_eq_false_iff, Bool.or_eq_false_iff, Bool.not_eq_true', Bool.not_eq_false', Bool.not_eq_true, Bool.not_eq_false, bne_iff_ne, beq_iff_eq, ne_eq] at *; omega) | (simp; done) | (simp at *; omega))).v))), fun hxp => (vn 9)⟩⟩)).vl.vE (vdispE (vae_nil _)).vl.vE)))))) (fun hc1 => ?_) (fun hc1 => ?_))
        · skip
          try simp only [List.length_take, List.length_drop, List.length_append, parts_len, isInt_i, isInt_l, isInt_t, isBool_i, isBool_l, isBool_t, isList_i, isList_l, isList_t, isTup_i, isTup_l, isTup_t, isNone_n, isNone_i, isNone_l, isNone_t, Bool.not_true, Bool.not_false, Bool.true_and, Bool.and_true, Bool.false_or, Bool.or_false, List.length_map, List.length_cons, List.length_nil, decide_eq_true_eq, decide_eq_false_iff_not, Bool.and_eq_true, Bool.or_eq_true, Bool.and_eq_false_iff, Bool.or_eq_false_iff, Bool.not_eq_true', Bool.not_eq_false', Bool.not_eq_true, Bool.not_eq_false, bne_iff_ne, beq_iff_eq, ne_eq] at hc1
          refine vk_cons (vs_appE 7 eI (vn 8) ⟨_, rfl⟩ rfl (by first | omega | assumption | (simp only [List.length_take, List.length_drop, List.length_append, parts_len, isInt_i, isInt_l, isInt_t, isBool_i, isBool_l, isBool_t, isList_i, isList_l, isList_t, isTup_i, isTup_l, isTup_t, isNone_n, isNone_i, isNone_l, isNone_t, Bool.not_true, Bool.not_false, Bool.true_and, Bool.and_true, Bool.false_or, Bool.or_false, List.length_map, List.length_cons, List.length_nil, decide_eq_true_eq, decide_eq_false_iff_not, Bool.and_eq_true, Bool.or_eq_true, Bool.and_eq_false_iff, Bool.or_eq_false_iff, Bool.not_eq_true', Bool.not_eq_false', Bool.not_eq_true, Bool.not_eq_false, bne_iff_ne, beq_iff_eq, ne_eq] at *; omega) | (simp; done) | (simp at *; omega)) ?_)
          generalize h_periods2 : periods1 ++ [_] = periods2
          have hl_periods2 : periods2.length = periods1.length + 1 := by rw [← h_periods2, List.length_append]; rfl
          refine vk_nil ?_
          refine vk_nil ⟨periods2, some (.leaf (eI period0)), rfl, ?_⟩
          have hfr := free_of hc1.2 hpp.1
          refine ⟨fun q hq => ?_, fun hm => ?_, by omega⟩
          · rw [← h_periods2] at hq
            rcases List.mem_append.mp hq with hq | hq
            · exact hgp q hq
            · cases List.mem_singleton.mp hq
              exact ⟨hc1.1, Int.dvd_of_emod_eq_zero hpp.2.2, hfr⟩
          · rw [← h_periods2]; simp
        · skip
          try simp only [List.length_take, List.length_drop, List.length_append, parts_len, isInt_i, isInt_l, isInt_t, isBool_i, isBool_l, isBool_t, isList_i, isList_l, isList_t, isTup_i, isTup_l, isTup_t, isNone_n, isNone_i, isNone_l, isNone_t, Bool.not_true, Bool.not_false, Bool.true_and, Bool.and_true, Bool.false_or, Bool.or_false, List.length_map, List.length_cons, List.length_nil, decide_eq_true_eq, decide_eq_false_iff_not, Bool.and_eq_true, Bool.or_eq_true, Bool.and_eq_false_iff, Bool.or_eq_false_iff, Bool.not_eq_true', Bool.not_eq_false', Bool.not_eq_true, Bool.not_eq_false, bne_iff_ne, beq_iff_eq, ne_eq] at hc1
          refine vk_nil ?_
          refine vk_nil ⟨periods1, some (.leaf (eI period0)), rfl, ?_⟩
          refine ⟨hgp, fun hm => hne ?_, by omega⟩
          rw [take_succ_of hx1] at hm
          rcases List.mem_append.mp hm with hm | hm
          · exact hm
          · exfalso
            have e := List.mem_singleton.mp hm
            rcases hc1 with h | h
            · omega
            · exact h (by rw [← e]; exact free_self (by omega) hc0)
      · obtain ⟨periods1, s_period1, rfl, ⟨hgp, hne, hpl⟩⟩ := hw
        have hpn := hne (by rw [List.take_length]; exact (hdv n0).mpr ⟨by omega, by omega, Int.emod_self⟩)
        have hplen : 0 < periods1.length := List.length_pos_iff.mpr hpn
        refine vk_cons (vs_setG 8 eI (vixE (0 : Int) (vo 7) (ve_mod (ve_call C_l_cell hr (va_cons (vn 0) (va_cons (ve_add (vn 1) (vn 6)) va_nil)) ⟨_, _, rfl, ⟨hd, by omega⟩, rfl⟩) (vlenE (vo 7) B.b_len) (by first | omega | assumption | (simp only [List.length_take, List.length_drop, List.length_append, parts_len, isInt_i, isInt_l, isInt_t, isBool_i, isBool_l, isBool_t, isList_i, isList_l, isList_t, isTup_i, isTup_l, isTup_t, isNone_n, isNone_i, isNone_l, isNone_t, Bool.not_true, Bool.not_false, Bool.true_and, Bool.and_true, Bool.false_or, Bool.or_false, List.length_map, List.length_cons, List.length_nil, decide_eq_true_eq, decide_eq_false_iff_not, Bool.and_eq_true, Bool.or_eq_true, Bool.and_eq_false_iff, Bool.or_eq_false_iff, Bool.not_eq_true', Bool.not_eq_false', Bool.not_eq_true, Bool.not_eq_false, bne_iff_ne, beq_iff_eq, ne_eq] at *; omega) | (simp; done) | (simp at *; omega))) (ixmod _ _ (by first | omega | assumption | (simp only [List.length_take, List.length_drop, List.length_append, parts_len, isInt_i, isInt_l, isInt_t, isBool_i, isBool_l, isBool_t, isList_i, isList_l, isList_t, isTup_i, isTup_l, isTup_t, isNone_n, isNone_i, isNone_l, isNone_t, Bool.not_true, Bool.not_false, Bool.true_and, Bool.and_true, Bool.false_or, Bool.or_false, List.length_map, List.length_cons, List.length_nil, decide_eq_true_eq, decide_eq_false_iff_not, Bool.and_eq_true, Bool.or_eq_true, Bool.and_eq_false_iff, Bool.or_eq_false_iff, Bool.not_eq_true', Bool.not_eq_false', Bool.not_eq_true, Bool.not_eq_false, bne_iff_ne, beq_iff_eq, ne_eq] at *; omega) | (simp; done) | (simp at *; omega)))) sc_l_greedy.nd fun period1 h_period1 => ?_)
        refine vk_seq (fun Γ => ∃ (period2 : Int), Γ = [some (.leaf ((eL eI) draws0)), some (.leaf (eI at0)), some (.leaf (eI n0)), some (.lst (lfs (owner1.map (eO eI)))), some (.lst (lfs (classes1.map (e2 eI eI)))), some (.leaf ((eL eI) divisors0)), some (.leaf (eI day0)), some (.lst (lfs (periods1.map eI))), some (.leaf (eI period2)), Option.map OT.leaf s_k0] ∧ (period2 ∈ periods1)) (vs_if (vb_cmp (vc_eqI (ve_mod (ve_fdivB (ve_call C_l_cell hr (va_cons (vn 0) (va_cons (ve_add (vn 1) (vn 6)) va_nil)) ⟨_, _, rfl, ⟨hd, by omega⟩, rfl⟩) ve_int (by first | omega | assumption | (simp only [List.length_take, List.length_drop, List.length_append, parts_len, isInt_i, isInt_l, isInt_t, isBool_i, isBool_l, isBool_t, isList_i, isList_l, isList_t, isTup_i, isTup_l, isTup_t, isNone_n, isNone_i, isNone_l, isNone_t, Bool.not_true, Bool.not_false, Bool.true_and, Bool.and_true, Bool.false_or, Bool.or_false, List.length_map, List.length_cons, List.length_nil, decide_eq_true_eq, decide_eq_false_iff_not, Bool.and_eq_true, Bool.or_eq_true, Bool.and_eq_false_iff, Bool.or_eq_false_iff, Bool.not_eq_true', Bool.not_eq_false', Bool.not_eq_true, Bool.not_eq_false, bne_iff_ne, beq_iff_eq, ne_eq] at *; omega) | (simp; done) | (simp at *; omega))) ve_int (by first | omega | assumption | (simp only [List.length_take, List.length_drop, List.length_append, parts_len, isInt_i, isInt_l, isInt_t, isBool_i, isBool_l, isBool_t, isList_i, isList_l, isList_t, isTup_i, isTup_l, isTup_t, isNone_n, isNone_i, isNone_l, isNone_t, Bool.not_true, Bool.not_false, Bool.true_and, Bool.and_true, Bool.false_or, Bool.or_false, List.length_map, List.length_cons, List.length_nil, decide_eq_true_eq, decide_eq_false_iff_not, Bool.and_eq_true, Bool.or_eq_true, Bool.and_eq_false_iff, Bool.or_eq_false_iff, Bool.not_eq_true', Bool.not_eq_false', Bool.not_eq_true, Bool.not_eq_false, bne_iff_ne, beq_iff_eq, ne_eq] at *; omega) | (simp; done) | (simp at *; omega))) ve_int)) (fun hc2 => ?_) (fun hc2 => ?_)) ?_
        · skip
          try simp only [List.length_take, List.length_drop, List.length_append, parts_len, isInt_i, isInt_l, isInt_t, isBool_i, isBool_l, isBool_t, isList_i, isList_l, isList_t, isTup_i, isTup_l, isTup_t, isNone_n, isNone_i, isNone_l, isNone_t, Bool.not_true, Bool.not_false, Bool.true_and, Bool.and_true, Bool.false_or, Bool.or_false, List.length_map, List.length_cons, List.length_nil, decide_eq_true_eq, decide_eq_false_iff_not, Bool.and_eq_true, Bool.or_eq_true, Bool.and_eq_false_iff, Bool.or_eq_false_iff, Bool.not_eq_true', Bool.not_eq_false', Bool.not_eq_true, Bool.not_eq_false, bne_iff_ne, beq_iff_eq, ne_eq] at hc2
          refine vk_cons (vs_setG 8 eI (vixE (0 : Int) (vo 7) ve_int (by first | omega | assumption | (simp only [List.length_take, List.length_drop, List.length_append, parts_len, isInt_i, isInt_l, isInt_t, isBool_i, isBool_l, isBool_t, isList_i, isList_l, isList_t, isTup_i, isTup_l, isTup_t, isNone_n, isNone_i, isNone_l, isNone_t, Bool.not_true, Bool.not_false, Bool.true_and, Bool.and_true, Bool.false_or, Bool.or_false, List.length_map, List.length_cons, List.length_nil, decide_eq_true_eq, decide_eq_false_iff_not, Bool.and_eq_true, Bool.or_eq_true, Bool.and_eq_false_iff, Bool.or_eq_false_iff, Bool.not_eq_true', Bool.not_eq_false', Bool.not_eq_true, Bool.not_eq_false, bne_iff_ne, beq_iff_eq, ne_eq] at *; omega) | (simp; done) | (simp at *; omega))) sc_l_greedy.nd fun period3 h_period3 => ?_)
          refine vk_nil ⟨period3, rfl, ?_⟩
          rw [h_period3]; exact getD_memA (by omega) _
        · skip
          try simp only [List.length_take, List.length_drop, List.length_append, parts_len, isInt_i, isInt_l, isInt_t, isBool_i, isBool_l, isBool_t, isList_i, isList_l, isList_t, isTup_i, isTup_l, isTup_t, isNone_n, isNone_i, isNone_l, isNone_t, Bool.not_true, Bool.not_false, Bool.true_and, Bool.and_true, Bool.false_or, Bool.or_false, List.length_map, List.length_cons, List.length_nil, decide_eq_true_eq, decide_eq_false_iff_not, Bool.and_eq_true, Bool.or_eq_true, Bool.and_eq_false_iff, Bool.or_eq_false_iff, Bool.not_eq_true', Bool.not_eq_false', Bool.not_eq_true, Bool.not_eq_false, bne_iff_ne, beq_iff_eq, ne_eq] at hc2
          refine vk_nil ⟨period1, rfl, ?_⟩
          rw [h_period1]; exact getD_memA (ixmod _ _ hplen).2 _
        rintro _ ⟨period2, rfl, hj⟩
        obtain ⟨hq1, hq2, hq3⟩ := hgp _ hj
        have hq4 : period2 ≤ n0 := Int.le_of_dvd (by omega) hq2
        refine vk_cons (vs_forR 9 (fun (m2 : Nat) Γ => ∃ (owner2 : List (Option Int)) (s_k1 : Option PyData), Γ = [some (.leaf ((eL eI) draws0)), some (.leaf (eI at0)), some (.leaf (eI n0)), some (.lst (lfs (owner2.map (eO eI)))), some (.lst (lfs (classes1.map (e2 eI eI)))), some (.leaf ((eL eI) divisors0)), some (.leaf (eI day0)), some (.lst (lfs (periods1.map eI))), some (.leaf (eI period2)), Option.map OT.leaf s_k1] ∧ (owner2.length = n0.toNat ∧ ∀ x : Nat, (owner2.getD x none).isSome = true ↔ (owner1.getD x none).isSome = true ∨ x < n0.toNat ∧ ∃ t : Nat, t < m2 ∧ (x : Int) = day0 + t * period2)) (fun _ => (vi_rng3 (vn 6) (vn 2) (vn 8) (rgc_up ⟨by omega, by omega⟩ ⟨by omega, by omega⟩ ⟨by omega, by omega⟩) B.b_range)) sc_l_greedy.nd ⟨owner1, s_k0, rfl, ?_⟩ (fun m2 k0 _ hx2 hw2 hw => ?_) (fun _ hw => ?_))
        · skip
          refine ⟨by omega, fun x => ⟨fun h => .inl h, fun h => ?_⟩⟩
          rcases h with h | ⟨_, t, ht, _⟩
          · exact h
          · exact absurd ht (Nat.not_lt_zero _)
        · obtain ⟨owner2, s_k1, rfl, ⟨hol2, hox⟩⟩ := hw
          have hkn := (rgN_lt (by omega)).mp hx2
          have hk0 : 0 ≤ (m2 : Int) * period2 := Int.mul_nonneg (by omega) (by omega)
          refine vk_cons (vs_setIE (ipos := ⟨0, 0, 0, 0⟩) 3 (eO eI) (show VM _ _ _ (.leaf ((eO eI) (some period2))) _ from (vn 8)) rfl (vn 9) (by first | omega | assumption | (simp only [List.length_take, List.length_drop, List.length_append, parts_len, isInt_i, isInt_l, isInt_t, isBool_i, isBool_l, isBool_t, isList_i, isList_l, isList_t, isTup_i, isTup_l, isTup_t, isNone_n, isNone_i, isNone_l, isNone_t, Bool.not_true, Bool.not_false, Bool.true_and, Bool.and_true, Bool.false_or, Bool.or_false, List.length_map, List.length_cons, List.length_nil, decide_eq_true_eq, decide_eq_false_iff_not, Bool.and_eq_true, Bool.or_eq_true, Bool.and_eq_false_iff, Bool.or_eq_false_iff, Bool.not_eq_true', Bool.not_eq_false', Bool.not_eq_true, Bool.not_eq_false, bne_iff_ne, beq_iff_eq, ne_eq] at *; omega) | (simp; done) | (simp at *; omega)) ?_)
          generalize h_owner3 : List.set owner2 _ _ = owner3
          have hl_owner3 : owner3.length = owner2.length := by rw [← h_owner3, List.length_set]
          refine vk_nil ⟨owner3, some (eI k0), rfl, ?_⟩
          refine ⟨by omega, fun x => ?_⟩
          rw [← h_owner3]
          by_cases e : x = k0.toNat
          · subst e
            refine ⟨fun _ => .inr ⟨by omega, m2, by omega, by omega⟩, fun _ => ?_⟩
            rw [getD_set_same (by omega)]; rfl
          · rw [getD_set_ne (Ne.symm e), hox x]
            constructor
            · rintro (h | ⟨h1, t, h2, h3⟩)
              · exact .inl h
              · exact .inr ⟨h1, t, by omega, h3⟩
            · rintro (h | ⟨h1, t, h2, h3⟩)
              · exact .inl h
              · refine .inr ⟨h1, t, ?_, h3⟩
                by_cases et : t = m2
                · subst et; omega
                · omega
        · obtain ⟨owner2, s_k1, rfl, ⟨hol2, hox⟩⟩ := hw
          refine vk_cons (vs_appE 4 (e2 eI eI) (vtup2 (ea := eI) (eb := eI) (vn 6) (vn 8)) ⟨_, rfl⟩ rfl (by first | omega | assumption | (simp only [List.length_take, List.length_drop, List.length_append, parts_len, isInt_i, isInt_l, isInt_t, isBool_i, isBool_l, isBool_t, isList_i, isList_l, isList_t, isTup_i, isTup_l, isTup_t, isNone_n, isNone_i, isNone_l, isNone_t, Bool.not_true, Bool.not_false, Bool.true_and, Bool.and_true, Bool.false_or, Bool.or_false, List.length_map, List.length_cons, List.length_nil, decide_eq_true_eq, decide_eq_false_iff_not, Bool.and_eq_true, Bool.or_eq_true, Bool.and_eq_false_iff, Bool.or_eq_false_iff, Bool.not_eq_true', Bool.not_eq_false', Bool.not_eq_true, Bool.not_eq_false, bne_iff_ne, beq_iff_eq, ne_eq] at *; omega) | (simp; done) | (simp at *; omega)) ?_)
          generalize h_classes2 : classes1 ++ [_] = classes2
          have hl_classes2 : classes2.length = classes1.length + 1 := by rw [← h_classes2, List.length_append]; rfl
          refine vk_nil ?_
          refine vk_nil ⟨owner2, classes2, some (.leaf (eI day0)), some (.lst (lfs (periods1.map eI))), some (.leaf (eI period2)), s_k1, rfl, ?_⟩
          have hd0 : day0 = (m0 : Int) := by omega
          have hnn : ((n0.toNat : Nat) : Int) = n0 := by omega
          rw [← h_classes2, hd0]
          refine Gr.take hg (by omega) (by omega) (by rw [hnn]; exact hq2) (fun k hk => ?_) hol2 fun x => ?_
          · rw [hnn] at hk; rw [← hd0] at hk ⊢; exact hq3 k hk
          · rw [hox x, hd0]
            constructor
            · rintro (h | ⟨h1, t, h2, h3⟩)
              · exact .inl h
              · exact .inr ⟨h1, t, h3⟩
            · rintro (h | ⟨h1, t, h3⟩)
              · exact .inl h
              · exact .inr ⟨h1, t, (rgN_lt (by omega)).mpr (by omega), h3⟩
    · skip
      try simp only [List.length_take, List.length_drop, List.length_append, parts_len, isInt_i, isInt_l, isInt_t, isBool_i, isBool_l, isBool_t, isList_i, isList_l, isList_t, isTup_i, isTup_l, isTup_t, isNone_n, isNone_i, isNone_l, isNone_t, Bool.not_true, Bool.not_false, Bool.true_and, Bool.and_true, Bool.false_or, Bool.or_false, List.length_map, List.length_cons, List.length_nil, decide_eq_true_eq, decide_eq_false_iff_not, Bool.and_eq_true, Bool.or_eq_true, Bool.and_eq_false_iff, Bool.or_eq_false_iff, Bool.not_eq_true', Bool.not_eq_false', Bool.not_eq_true, Bool.not_eq_false, bne_iff_ne, beq_iff_eq, ne_eq] at hc0
      refine vk_nil ?_
      refine vk_nil ⟨owner1, classes1, some (.leaf (eI day0)), s_periods0, s_period0, s_k0, rfl, ?_⟩
      exact Gr.skip hg (by rw [show m0 = day0.toNat by omega]; exact some_of hc0)
  · obtain ⟨owner1, classes1, s_day0, s_periods0, s_period0, s_k0, rfl, hg⟩ := hw
    refine vk_cons (vs_ret (ve_sortE (roomy hr) seP (vo 4) B.b_sorted).frzE ?_)
    refine ⟨_, rfl, ?_⟩
    try dsimp only
    have hP := hg.part (by omega)
    have hB : Big classes1 := hP.bigSmall hnR fun p hp => (hg.ok p hp).2
    exact ⟨hP.sorted, by rw [List.length_mergeSort]; have := hg.size; omega, sorted_all fun p hp => by have := hg.le (by omega) p hp; omega, hP.srt, hB.sorted hP⟩
def pre_l_crooked (os : List OT) (P : OT → Prop) : Prop := ∃ (draws0 : List Int) (at0 : Int), os = [.leaf ((eL eI) draws0), .leaf (eI at0)] ∧ (draws0 ≠ [] ∧ 0 ≤ at0) ∧ P = (someD (eL (e2 eI eI)) fun res => Part res ∧ res.length ≤ 100 ∧ (∀ p ∈ res, p.2 ≤ 1000) ∧ Srt res ∧ Big res)
theorem ok_l_crooked {k : Nat} (F : Fd K "_law_crooked" s_l_crooked f fd) (B : Bl mg) (C_l_cell : Cal P w K mg base k "_law_cell" 2 (SpD K pre_l_cell)) (C_l_split : Cal P w K mg base k "_law_split" 3 (SpD K pre_l_split)) : FnOk P w K mg base CX0 (k + 1) f fd ["draws", "at"] (SpN K pre_l_crooked) := by
  refine fn_okN F sc_l_crooked (fun ds o h => by obtain ⟨draws0, at0, rfl, ⟨hd, ha⟩, rfl⟩ := h; rfl) fun cdv A outer s H E hr ds o h => ?_
  obtain ⟨draws0, at0, rfl, ⟨hd, ha⟩, rfl⟩ := h
  refine vk_cons (vs_setG 2 eI (ve_mod (ve_call C_l_cell hr (va_cons (vn 0) (va_cons (vn 1) va_nil)) ⟨_, _, rfl, ⟨hd, by omega⟩, rfl⟩) ve_int (by first | omega | assumption | (simp only [List.length_take, List.length_drop, List.length_append, parts_len, isInt_i, isInt_l, isInt_t, isBool_i, isBool_l, isBool_t, isList_i, isList_l, isList_t, isTup_i, isTup_l, isTup_t, isNone_n, isNone_i, isNone_l, isNone_t, Bool.not_true, Bool.not_false, Bool.true_and, Bool.and_true, Bool.false_or, Bool.or_false, List.length_map, List.length_cons, List.length_nil, decide_eq_true_eq, decide_eq_false_iff_not, Bool.and_eq_true, Bool.or_eq_true, Bool.and_eq_false_iff, Bool.or_eq_false_iff, Bool.not_eq_true', Bool.not_eq_false', Bool.not_eq_true, Bool.not_eq_false, bne_iff_ne, beq_iff_eq, ne_eq] at *; omega) | (simp; done) | (simp at *; omega))) sc_l_crooked.nd fun shift0 h_shift0 => ?_)
  refine vk_cons (vs_setO 3 (e2 eI eI) (vdispE (vae_cons (vtup2 (ea := eI) (eb := eI) (ve_mod (ve_add ve_int (vn 2)) ve_int (by first | omega | assumption | (simp only [List.length_take, List.length_drop, List.length_append, parts_len, isInt_i, isInt_l, isInt_t, isBool_i, isBool_l, isBool_t, isList_i, isList_l, isList_t, isTup_i, isTup_l, isTup_t, isNone_n, isNone_i, isNone_l, isNone_t, Bool.not_true, Bool.not_false, Bool.true_and, Bool.and_true, Bool.false_or, Bool.or_false, List.length_map, List.length_cons, List.length_nil, decide_eq_true_eq, decide_eq_false_iff_not, Bool.and_eq_true, Bool.or_eq_true, Bool.and_eq_false_iff, Bool.or_eq_false_iff, Bool.not_eq_true', Bool.not_eq_false', Bool.not_eq_true, Bool.not_eq_false, bne_iff_ne, beq_iff_eq, ne_eq] at *; omega) | (simp; done) | (simp at *; omega))) ve_int) (vae_cons (vtup2 (ea := eI) (eb := eI) (ve_mod (ve_add ve_int (vn 2)) ve_int (by first | omega | assumption | (simp only [List.length_take, List.length_drop, List.length_append, parts_len, isInt_i, isInt_l, isInt_t, isBool_i, isBool_l, isBool_t, isList_i, isList_l, isList_t, isTup_i, isTup_l, isTup_t, isNone_n, isNone_i, isNone_l, isNone_t, Bool.not_true, Bool.not_false, Bool.true_and, Bool.and_true, Bool.false_or, Bool.or_false, List.length_map, List.length_cons, List.length_nil, decide_eq_true_eq, decide_eq_false_iff_not, Bool.and_eq_true, Bool.or_eq_true, Bool.and_eq_false_iff, Bool.or_eq_false_iff, Bool.not_eq_true', Bool.not_eq_false', Bool.not_eq_true, Bool.not_eq_false, bne_iff_ne, beq_iff_eq, ne_eq] at *; omega) | (simp; done) | (simp at *; omega))) ve_int) (vae_cons (vtup2 (ea := eI) (eb := eI) (ve_mod (ve_add ve_int (vn 2)) ve_int (by first | omega | assumption | (simp only [List.length_take, List.length_drop, List.length_append, parts_len, isInt_i, isInt_l, isInt_t, isBool_i, isBool_l, isBool_t, isList_i, isList_l, isList_t, isTup_i, isTup_l, isTup_t, isNone_n, isNone_i, isNone_l, isNone_t, Bool.not_true, Bool.not_false, Bool.true_and, Bool.and_true, Bool.false_or, Bool.or_false, List.length_map, List.length_cons, List.length_nil, decide_eq_true_eq, decide_eq_false_iff_not, Bool.and_eq_true, Bool.or_eq_true, Bool.and_eq_false_iff, Bool.or_eq_false_iff, Bool.not_eq_true', Bool.not_eq_false', Bool.not_eq_true, Bool.not_eq_false, bne_iff_ne, beq_iff_eq, ne_eq] at *; omega) | (simp; done) | (simp at *; omega))) ve_int) (vae_nil (e2 eI eI)))))) sc_l_crooked.nd fun classes0 h_classes0 => ?_)
  refine vk_cons (vs_forR 4 (fun (m0 : Nat) Γ => ∃ (classes1 : List (Int × Int)) (s_day0 : Option OT), Γ = [some (.leaf ((eL eI) draws0)), some (.leaf (eI at0)), some (.leaf (eI shift0)), some (.lst (lfs (classes1.map (e2 eI eI)))), s_day0, none] ∧ (classes1 = crkM shift0 m0)) (fun _ => (vi_rng1 ve_int (by first | omega | assumption | (simp only [List.length_take, List.length_drop, List.length_append, parts_len, isInt_i, isInt_l, isInt_t, isBool_i, isBool_l, isBool_t, isList_i, isList_l, isList_t, isTup_i, isTup_l, isTup_t, isNone_n, isNone_i, isNone_l, isNone_t, Bool.not_true, Bool.not_false, Bool.true_and, Bool.and_true, Bool.false_or, Bool.or_false, List.length_map, List.length_cons, List.length_nil, decide_eq_true_eq, decide_eq_false_iff_not, Bool.and_eq_true, Bool.or_eq_true, Bool.and_eq_false_iff, Bool.or_eq_false_iff, Bool.not_eq_true', Bool.not_eq_false', Bool.not_eq_true, Bool.not_eq_false, bne_iff_ne, beq_iff_eq, ne_eq] at *; omega) | (simp; done) | (simp at *; omega)) B.b_range)) sc_l_crooked.nd ⟨classes0, none, rfl, ?_⟩ (fun m0 day0 _ hx0 hw0 hw => ?_) (fun _ hw => ?_))
  · skip
    rw [crk_zero]; exact h_classes0
  · obtain ⟨classes1, s_day0, rfl, hk⟩ := hw
    have hcl := crk_len shift0 m0
    rw [← hk] at hcl
    refine vk_cons (vs_if (vb_cmp (veqE (en := (eL (e2 eI eI))) (roomy hr) (geL (ge2 geI geI)) (vlcE [("one", 5)] (e2 eI eI) (e2 eI eI) (vi_list (vslE (vo 3) vp_none (vp_some ve_int) (cutD_to _ _ (by first | omega | assumption | (simp only [List.length_take, List.length_drop, List.length_append, parts_len, isInt_i, isInt_l, isInt_t, isBool_i, isBool_l, isBool_t, isList_i, isList_l, isList_t, isTup_i, isTup_l, isTup_t, isNone_n, isNone_i, isNone_l, isNone_t, Bool.not_true, Bool.not_false, Bool.true_and, Bool.and_true, Bool.false_or, Bool.or_false, List.length_map, List.length_cons, List.length_nil, decide_eq_true_eq, decide_eq_false_iff_not, Bool.and_eq_true, Bool.or_eq_true, Bool.and_eq_false_iff, Bool.or_eq_false_iff, Bool.not_eq_true', Bool.not_eq_false', Bool.not_eq_true, Bool.not_eq_false, bne_iff_ne, beq_iff_eq, ne_eq] at *; omega) | (simp; done) | (simp at *; omega)))).frzE).cc (no_cons (no_none rfl) no_nil) (fun _ _ _ _ _ => vg_name 5 sc_l_crooked.nd) (by simp) (by simp) (by first | omega | assumption | (simp only [List.length_take, List.length_drop, List.length_append, parts_len, isInt_i, isInt_l, isInt_t, isBool_i, isBool_l, isBool_t, isList_i, isList_l, isList_t, isTup_i, isTup_l, isTup_t, isNone_n, isNone_i, isNone_l, isNone_t, Bool.not_true, Bool.not_false, Bool.true_and, Bool.and_true, Bool.false_or, Bool.or_false, List.length_map, List.length_cons, List.length_nil, decide_eq_true_eq, decide_eq_false_iff_not, Bool.and_eq_true, Bool.or_eq_true, Bool.and_eq_false_iff, Bool.or_eq_false_iff, Bool.not_eq_true', Bool.not_eq_false', Bool.not_eq_true, Bool.not_eq_false, bne_iff_ne, beq_iff_eq, ne_eq] at *; omega) | (simp; done) | (simp at *; omega)) sc_l_crooked.nd (blkOk_by (show blkC N_l_crooked (defScope s_l_crooked) _ _ = true by decide +kernel)) (fun xa hxa => have hq := crk_pos hk hxa; ⟨_, rfl, fun _ _ _ _ _ => ⟨(vts_one (vb_cmp (vc_eqI (ve_mod (vn 4) (vsnd (vn 5) ve_int) (by first | omega | assumption | (simp only [List.length_take, List.length_drop, List.length_append, parts_len, isInt_i, isInt_l, isInt_t, isBool_i, isBool_l, isBool_t, isList_i, isList_l, isList_t, isTup_i, isTup_l, isTup_t, isNone_n, isNone_i, isNone_l, isNone_t, Bool.not_true, Bool.not_false, Bool.true_and, Bool.and_true, Bool.false_or, Bool.or_false, List.length_map, List.length_cons, List.length_nil, decide_eq_true_eq, decide_eq_false_iff_not, Bool.and_eq_true, Bool.or_eq_true, Bool.and_eq_false_iff, Bool.or_eq_false_iff, Bool.not_eq_true', Bool.not_eq_false', Bool.not_eq_true, Bool.not_eq_false, bne_iff_ne, beq_iff_eq, ne_eq] at *; omega) | (simp; done) | (simp at *; omega))) (vfst (vn 5) ve_int)))), fun hxp => (vn 5)⟩⟩)).vl.vE (vdispE (vae_nil _)).vl.vE)) (fun hc0 => ?_) (fun hc0 => ?_))
    · skip
      try simp only [List.length_take, List.length_drop, List.length_append, parts_len, isInt_i, isInt_l, isInt_t, isBool_i, isBool_l, isBool_t, isList_i, isList_l, isList_t, isTup_i, isTup_l, isTup_t, isNone_n, isNone_i, isNone_l, isNone_t, Bool.not_true, Bool.not_false, Bool.true_and, Bool.and_true, Bool.false_or, Bool.or_false, List.length_map, List.length_cons, List.length_nil, decide_eq_true_eq, decide_eq_false_iff_not, Bool.and_eq_true, Bool.or_eq_true, Bool.and_eq_false_iff, Bool.or_eq_false_iff, Bool.not_eq_true', Bool.not_eq_false', Bool.not_eq_true, Bool.not_eq_false, bne_iff_ne, beq_iff_eq, ne_eq] at hc0
      refine vk_cons (vs_appE 3 (e2 eI eI) (vtup2 (ea := eI) (eb := eI) (vn 4) ve_int) ⟨_, rfl⟩ rfl (by first | omega | assumption | (simp only [List.length_take, List.length_drop, List.length_append, parts_len, isInt_i, isInt_l, isInt_t, isBool_i, isBool_l, isBool_t, isList_i, isList_l, isList_t, isTup_i, isTup_l, isTup_t, isNone_n, isNone_i, isNone_l, isNone_t, Bool.not_true, Bool.not_false, Bool.true_and, Bool.and_true, Bool.false_or, Bool.or_false, List.length_map, List.length_cons, List.length_nil, decide_eq_true_eq, decide_eq_false_iff_not, Bool.and_eq_true, Bool.or_eq_true, Bool.and_eq_false_iff, Bool.or_eq_false_iff, Bool.not_eq_true', Bool.not_eq_false', Bool.not_eq_true, Bool.not_eq_false, bne_iff_ne, beq_iff_eq, ne_eq] at *; omega) | (simp; done) | (simp at *; omega)) ?_)
      generalize h_classes2 : classes1 ++ [_] = classes2
      have hl_classes2 : classes2.length = classes1.length + 1 := by rw [← h_classes2, List.length_append]; rfl
      refine vk_nil ?_
      refine vk_nil ⟨classes2, some (.leaf (eI day0)), rfl, ?_⟩
      have e := crk_succ shift0 m0
      simp only [filter_true, List.map_id, List.map_id'] at hc0
      rw [hk, show (Int.toNat 3) = 3 from rfl, crk_take] at hc0
      have hd0 : day0 = (m0 : Int) := by omega
      rw [hd0] at hc0 h_classes2
      rw [if_pos hc0] at e
      rw [e, ← hk, ← h_classes2]
    · skip
      try simp only [List.length_take, List.length_drop, List.length_append, parts_len, isInt_i, isInt_l, isInt_t, isBool_i, isBool_l, isBool_t, isList_i, isList_l, isList_t, isTup_i, isTup_l, isTup_t, isNone_n, isNone_i, isNone_l, isNone_t, Bool.not_true, Bool.not_false, Bool.true_and, Bool.and_true, Bool.false_or, Bool.or_false, List.length_map, List.length_cons, List.length_nil, decide_eq_true_eq, decide_eq_false_iff_not, Bool.and_eq_true, Bool.or_eq_true, Bool.and_eq_false_iff, Bool.or_eq_false_iff, Bool.not_eq_true', Bool.not_eq_false', Bool.not_eq_true, Bool.not_eq_false, bne_iff_ne, beq_iff_eq, ne_eq] at hc0
      refine vk_nil ?_
      refine vk_nil ⟨classes1, some (.leaf (eI day0)), rfl, ?_⟩
      have e := crk_succ shift0 m0
      simp only [filter_true, List.map_id, List.map_id'] at hc0
      rw [hk, show (Int.toNat 3) = 3 from rfl, crk_take] at hc0
      have hd0 : day0 = (m0 : Int) := by omega
      rw [hd0] at hc0
      rw [if_neg hc0] at e
      rw [e, ← hk]
  · obtain ⟨classes1, s_day0, rfl, hk⟩ := hw
    refine vk_cons (vs_setO 3 (e2 eI eI) (ve_sortE (roomy hr) seP (vo 3) B.b_sorted) sc_l_crooked.nd fun classes3 h_classes3 => ?_)
    obtain ⟨hp0, hb0⟩ := crk_part (s := shift0) (by omega) (by omega)
    have hcl := crk_len shift0 30
    rw [show (30 : Int).toNat = 30 from rfl] at hk
    rw [← hk] at hp0 hb0 hcl
    have hp : Part classes3 := by rw [h_classes3]; exact hp0.sorted
    have hb : ∀ p ∈ classes3, p.2 ≤ 30 := by rw [h_classes3]; exact sorted_all hb0
    have hl : classes3.length ≤ 33 := by rw [h_classes3, List.length_mergeSort]; exact hcl
    have hlen : 0 < classes3.length := List.length_pos_iff.mpr hp.ne
    have hsr : Srt classes3 := by rw [h_classes3]; exact hp0.srt
    have hB : Big classes3 := by rw [h_classes3]; exact (hk ▸ crk_big (s := shift0) (by omega) (by omega)).sorted hp0
    refine vk_frz 3 rfl ?_
    refine vk_cons (vs_if (vb_cmp (vc_eqI (ve_mod (ve_call C_l_cell hr (va_cons (vn 0) (va_cons (ve_add (vn 1) ve_int) va_nil)) ⟨_, _, rfl, ⟨hd, by omega⟩, rfl⟩) ve_int (by first | omega | assumption | (simp only [List.length_take, List.length_drop, List.length_append, parts_len, isInt_i, isInt_l, isInt_t, isBool_i, isBool_l, isBool_t, isList_i, isList_l, isList_t, isTup_i, isTup_l, isTup_t, isNone_n, isNone_i, isNone_l, isNone_t, Bool.not_true, Bool.not_false, Bool.true_and, Bool.and_true, Bool.false_or, Bool.or_false, List.length_map, List.length_cons, List.length_nil, decide_eq_true_eq, decide_eq_false_iff_not, Bool.and_eq_true, Bool.or_eq_true, Bool.and_eq_false_iff, Bool.or_eq_false_iff, Bool.not_eq_true', Bool.not_eq_false', Bool.not_eq_true, Bool.not_eq_false, bne_iff_ne, beq_iff_eq, ne_eq] at *; omega) | (simp; done) | (simp at *; omega))) ve_int)) (fun hc1 => ?_) (fun hc1 => ?_))
    · skip
      try simp only [List.length_take, List.length_drop, List.length_append, parts_len, isInt_i, isInt_l, isInt_t, isBool_i, isBool_l, isBool_t, isList_i, isList_l, isList_t, isTup_i, isTup_l, isTup_t, isNone_n, isNone_i, isNone_l, isNone_t, Bool.not_true, Bool.not_false, Bool.true_and, Bool.and_true, Bool.false_or, Bool.or_false, List.length_map, List.length_cons, List.length_nil, decide_eq_true_eq, decide_eq_false_iff_not, Bool.and_eq_true, Bool.or_eq_true, Bool.and_eq_false_iff, Bool.or_eq_false_iff, Bool.not_eq_true', Bool.not_eq_false', Bool.not_eq_true, Bool.not_eq_false, bne_iff_ne, beq_iff_eq, ne_eq] at hc1
      refine vk_cons (vs_setO 3 (e2 eI eI) (ve_call C_l_split hr (va_cons (vn 3) (va_cons (ve_mod (ve_call C_l_cell hr (va_cons (vn 0) (va_cons (ve_add (vn 1) ve_int) va_nil)) ⟨_, _, rfl, ⟨hd, by omega⟩, rfl⟩) (vlenE (vn 3).lsE B.b_len) (by first | omega | assumption | (simp only [List.length_take, List.length_drop, List.length_append, parts_len, isInt_i, isInt_l, isInt_t, isBool_i, isBool_l, isBool_t, isList_i, isList_l, isList_t, isTup_i, isTup_l, isTup_t, isNone_n, isNone_i, isNone_l, isNone_t, Bool.not_true, Bool.not_false, Bool.true_and, Bool.and_true, Bool.false_or, Bool.or_false, List.length_map, List.length_cons, List.length_nil, decide_eq_true_eq, decide_eq_false_iff_not, Bool.and_eq_true, Bool.or_eq_true, Bool.and_eq_false_iff, Bool.or_eq_false_iff, Bool.not_eq_true', Bool.not_eq_false', Bool.not_eq_true, Bool.not_eq_false, bne_iff_ne, beq_iff_eq, ne_eq] at *; omega) | (simp; done) | (simp at *; omega))) (va_cons (ve_add ve_int (ve_mod (ve_fdivB (ve_call C_l_cell hr (va_cons (vn 0) (va_cons (ve_add (vn 1) ve_int) va_nil)) ⟨_, _, rfl, ⟨hd, by omega⟩, rfl⟩) ve_int (by first | omega | assumption | (simp only [List.length_take, List.length_drop, List.length_append, parts_len, isInt_i, isInt_l, isInt_t, isBool_i, isBool_l, isBool_t, isList_i, isList_l, isList_t, isTup_i, isTup_l, isTup_t, isNone_n, isNone_i, isNone_l, isNone_t, Bool.not_true, Bool.not_false, Bool.true_and, Bool.and_true, Bool.false_or, Bool.or_false, List.length_map, List.length_cons, List.length_nil, decide_eq_true_eq, decide_eq_false_iff_not, Bool.and_eq_true, Bool.or_eq_true, Bool.and_eq_false_iff, Bool.or_eq_false_iff, Bool.not_eq_true', Bool.not_eq_false', Bool.not_eq_true, Bool.not_eq_false, bne_iff_ne, beq_iff_eq, ne_eq] at *; omega) | (simp; done) | (simp at *; omega))) ve_int (by first | omega | assumption | (simp only [List.length_take, List.length_drop, List.length_append, parts_len, isInt_i, isInt_l, isInt_t, isBool_i, isBool_l, isBool_t, isList_i, isList_l, isList_t, isTup_i, isTup_l, isTup_t, isNone_n, isNone_i, isNone_l, isNone_t, Bool.not_true, Bool.not_false, Bool.true_and, Bool.and_true, Bool.false_or, Bool.or_false, List.length_map, List.length_cons, List.length_nil, decide_eq_true_eq, decide_eq_false_iff_not, Bool.and_eq_true, Bool.or_eq_true, Bool.and_eq_false_iff, Bool.or_eq_false_iff, Bool.not_eq_true', Bool.not_eq_false', Bool.not_eq_true, Bool.not_eq_false, bne_iff_ne, beq_iff_eq, ne_eq] at *; omega) | (simp; done) | (simp at *; omega)))) va_nil))) ⟨_, _, _, rfl, ⟨(ixmod _ _ hlen).1, (ixmod _ _ hlen).2, by omega, by omega, by omega⟩, rfl⟩) sc_l_crooked.nd fun classes4 h_classes4 => ?_)
      refine vk_nil ?_
      refine vk_cons (vs_ret (VM.frzE (vmv 3)) ?_)
      refine ⟨_, rfl, ?_⟩
      try dsimp only
      rw [h_classes4]
      have hsl := split_len (cs := classes3) (n := (cellF draws0 (at0 + 2) % (classes3.length : Int)).toNat) (t := 2 + cellF draws0 (at0 + 1) / 3 % 2) (ixmod _ _ hlen).2
      refine ⟨hp.split (ixmod _ _ hlen).2 (by omega), by omega, fun p hq => ?_, hp.splitSrt (ixmod _ _ hlen).2 (by omega), hB.split hp (ixmod _ _ hlen).2 (by omega)⟩
      have := split_le (ixmod _ _ hlen).2 hb (fun p hm => by have := (hp.ok p hm).1; omega) (by omega) p hq
      omega
    · skip
      try simp only [List.length_take, List.length_drop, List.length_append, parts_len, isInt_i, isInt_l, isInt_t, isBool_i, isBool_l, isBool_t, isList_i, isList_l, isList_t, isTup_i, isTup_l, isTup_t, isNone_n, isNone_i, isNone_l, isNone_t, Bool.not_true, Bool.not_false, Bool.true_and, Bool.and_true, Bool.false_or, Bool.or_false, List.length_map, List.length_cons, List.length_nil, decide_eq_true_eq, decide_eq_false_iff_not, Bool.and_eq_true, Bool.or_eq_true, Bool.and_eq_false_iff, Bool.or_eq_false_iff, Bool.not_eq_true', Bool.not_eq_false', Bool.not_eq_true, Bool.not_eq_false, bne_iff_ne, beq_iff_eq, ne_eq] at hc1
      refine vk_nil ?_
      refine vk_cons (vs_ret (vn 3) ?_)
      refine ⟨_, rfl, ?_⟩
      try dsimp only
      exact ⟨hp, by omega, fun p hq => by have := hb p hq; omega, hsr, hB⟩
def pre_l_some_parting (os : List OT) (P : OT → Prop) : Prop := ∃ (draws0 : List Int) (at0 : Int), os = [.leaf ((eL eI) draws0), .leaf (eI at0)] ∧ (draws0 ≠ [] ∧ 0 ≤ at0) ∧ P = (someD (eL (e2 eI eI)) fun res => Part res ∧ res.length ≤ 100 ∧ (∀ p ∈ res, p.2 ≤ 1000) ∧ Srt res ∧ Big res)
theorem ok_l_some_parting {k : Nat} (F : Fd K "_law_some_parting" s_l_some_parting f fd) (B : Bl mg) (C_l_cell : Cal P w K mg base k "_law_cell" 2 (SpD K pre_l_cell)) (C_l_crooked : Cal P w K mg base k "_law_crooked" 2 (SpN K pre_l_crooked)) (C_l_greedy : Cal P w K mg base k "_law_greedy" 3 (SpN K pre_l_greedy)) (C_l_splits : Cal P w K mg base k "_law_splits" 4 (SpN K pre_l_splits)) : FnOk P w K mg base CX0 (k + 1) f fd ["draws", "at"] (SpN K pre_l_some_parting) := by
  refine fn_okN F sc_l_some_parting (fun ds o h => by obtain ⟨draws0, at0, rfl, ⟨hd, ha⟩, rfl⟩ := h; rfl) fun cdv A outer s H E hr ds o h => ?_
  obtain ⟨draws0, at0, rfl, ⟨hd, ha⟩, rfl⟩ := h
  refine vk_cons (vs_setG 2 eI (ve_mod (ve_call C_l_cell hr (va_cons (vn 0) (va_cons (vn 1) va_nil)) ⟨_, _, rfl, ⟨hd, by omega⟩, rfl⟩) ve_int (by first | omega | assumption | (simp only [List.length_take, List.length_drop, List.length_append, parts_len, isInt_i, isInt_l, isInt_t, isBool_i, isBool_l, isBool_t, isList_i, isList_l, isList_t, isTup_i, isTup_l, isTup_t, isNone_n, isNone_i, isNone_l, isNone_t, Bool.not_true, Bool.not_false, Bool.true_and, Bool.and_true, Bool.false_or, Bool.or_false, List.length_map, List.length_cons, List.length_nil, decide_eq_true_eq, decide_eq_false_iff_not, Bool.and_eq_true, Bool.or_eq_true, Bool.and_eq_false_iff, Bool.or_eq_false_iff, Bool.not_eq_true', Bool.not_eq_false', Bool.not_eq_true, Bool.not_eq_false, bne_iff_ne, beq_iff_eq, ne_eq] at *; omega) | (simp; done) | (simp at *; omega))) sc_l_some_parting.nd fun kind0 h_kind0 => ?_)
  refine vk_cons (vs_if (vb_cmp (vc_eqI (vn 2) ve_int)) (fun hc0 => ?_) (fun hc0 => ?_))
  · skip
    try simp only [List.length_take, List.length_drop, List.length_append, parts_len, isInt_i, isInt_l, isInt_t, isBool_i, isBool_l, isBool_t, isList_i, isList_l, isList_t, isTup_i, isTup_l, isTup_t, isNone_n, isNone_i, isNone_l, isNone_t, Bool.not_true, Bool.not_false, Bool.true_and, Bool.and_true, Bool.false_or, Bool.or_false, List.length_map, List.length_cons, List.length_nil, decide_eq_true_eq, decide_eq_false_iff_not, Bool.and_eq_true, Bool.or_eq_true, Bool.and_eq_false_iff, Bool.or_eq_false_iff, Bool.not_eq_true', Bool.not_eq_false', Bool.not_eq_true, Bool.not_eq_false, bne_iff_ne, beq_iff_eq, ne_eq] at hc0
    refine vk_cons (vs_retNN (ve_callN C_l_greedy hr (vms_cons (vn 0) (vms_cons (ve_add (vn 1) ve_int) (vms_cons (vixE (0 : Int) (vdispE (vae_cons ve_int (vae_cons ve_int (vae_cons ve_int (vae_cons ve_int (vae_cons ve_int (vae_cons ve_int (vae_nil eI)))))))).vl (ve_mod (ve_fdivB (ve_call C_l_cell hr (va_cons (vn 0) (va_cons (vn 1) va_nil)) ⟨_, _, rfl, ⟨hd, by omega⟩, rfl⟩) ve_int (by first | omega | assumption | (simp only [List.length_take, List.length_drop, List.length_append, parts_len, isInt_i, isInt_l, isInt_t, isBool_i, isBool_l, isBool_t, isList_i, isList_l, isList_t, isTup_i, isTup_l, isTup_t, isNone_n, isNone_i, isNone_l, isNone_t, Bool.not_true, Bool.not_false, Bool.true_and, Bool.and_true, Bool.false_or, Bool.or_false, List.length_map, List.length_cons, List.length_nil, decide_eq_true_eq, decide_eq_false_iff_not, Bool.and_eq_true, Bool.or_eq_true, Bool.and_eq_false_iff, Bool.or_eq_false_iff, Bool.not_eq_true', Bool.not_eq_false', Bool.not_eq_true, Bool.not_eq_false, bne_iff_ne, beq_iff_eq, ne_eq] at *; omega) | (simp; done) | (simp at *; omega))) ve_int (by first | omega | assumption | (simp only [List.length_take, List.length_drop, List.length_append, parts_len, isInt_i, isInt_l, isInt_t, isBool_i, isBool_l, isBool_t, isList_i, isList_l, isList_t, isTup_i, isTup_l, isTup_t, isNone_n, isNone_i, isNone_l, isNone_t, Bool.not_true, Bool.not_false, Bool.true_and, Bool.and_true, Bool.false_or, Bool.or_false, List.length_map, List.length_cons, List.length_nil, decide_eq_true_eq, decide_eq_false_iff_not, Bool.and_eq_true, Bool.or_eq_true, Bool.and_eq_false_iff, Bool.or_eq_false_iff, Bool.not_eq_true', Bool.not_eq_false', Bool.not_eq_true, Bool.not_eq_false, bne_iff_ne, beq_iff_eq, ne_eq] at *; omega) | (simp; done) | (simp at *; omega))) (by first | omega | assumption | (simp only [List.length_take, List.length_drop, List.length_append, parts_len, isInt_i, isInt_l, isInt_t, isBool_i, isBool_l, isBool_t, isList_i, isList_l, isList_t, isTup_i, isTup_l, isTup_t, isNone_n, isNone_i, isNone_l, isNone_t, Bool.not_true, Bool.not_false, Bool.true_and, Bool.and_true, Bool.false_or, Bool.or_false, List.length_map, List.length_cons, List.length_nil, decide_eq_true_eq, decide_eq_false_iff_not, Bool.and_eq_true, Bool.or_eq_true, Bool.and_eq_false_iff, Bool.or_eq_false_iff, Bool.not_eq_true', Bool.not_eq_false', Bool.not_eq_true, Bool.not_eq_false, bne_iff_ne, beq_iff_eq, ne_eq] at *; omega) | (simp; done) | (simp at *; omega))) vms_nil))) ⟨_, _, _, rfl, ⟨hd, by omega, (rounds_in _).1, (rounds_in _).2, rounds_small _⟩, rfl⟩) fun o ho => ?_)
    obtain ⟨r0, rfl, hr0⟩ := ho
    refine ⟨r0, rfl, ?_⟩
    try dsimp only at hr0 ⊢
    exact hr0
  · skip
    try simp only [List.length_take, List.length_drop, List.length_append, parts_len, isInt_i, isInt_l, isInt_t, isBool_i, isBool_l, isBool_t, isList_i, isList_l, isList_t, isTup_i, isTup_l, isTup_t, isNone_n, isNone_i, isNone_l, isNone_t, Bool.not_true, Bool.not_false, Bool.true_and, Bool.and_true, Bool.false_or, Bool.or_false, List.length_map, List.length_cons, List.length_nil, decide_eq_true_eq, decide_eq_false_iff_not, Bool.and_eq_true, Bool.or_eq_true, Bool.and_eq_false_iff, Bool.or_eq_false_iff, Bool.not_eq_true', Bool.not_eq_false', Bool.not_eq_true, Bool.not_eq_false, bne_iff_ne, beq_iff_eq, ne_eq] at hc0
    refine vk_nil ?_
    refine vk_cons (vs_if (vb_cmp (vc_eqI (vn 2) ve_int)) (fun hc1 => ?_) (fun hc1 => ?_))
    · skip
      try simp only [List.length_take, List.length_drop, List.length_append, parts_len, isInt_i, isInt_l, isInt_t, isBool_i, isBool_l, isBool_t, isList_i, isList_l, isList_t, isTup_i, isTup_l, isTup_t, isNone_n, isNone_i, isNone_l, isNone_t, Bool.not_true, Bool.not_false, Bool.true_and, Bool.and_true, Bool.false_or, Bool.or_false, List.length_map, List.length_cons, List.length_nil, decide_eq_true_eq, decide_eq_false_iff_not, Bool.and_eq_true, Bool.or_eq_true, Bool.and_eq_false_iff, Bool.or_eq_false_iff, Bool.not_eq_true', Bool.not_eq_false', Bool.not_eq_true, Bool.not_eq_false, bne_iff_ne, beq_iff_eq, ne_eq] at hc1
      refine vk_cons (vs_retNN (ve_callN C_l_crooked hr (vms_cons (vn 0) (vms_cons (ve_add (vn 1) ve_int) vms_nil)) ⟨_, _, rfl, ⟨hd, by omega⟩, rfl⟩) fun o ho => ?_)
      obtain ⟨r0, rfl, hr0⟩ := ho
      refine ⟨r0, rfl, ?_⟩
      try dsimp only at hr0 ⊢
      exact hr0
    · skip
      try simp only [List.length_take, List.length_drop, List.length_append, parts_len, isInt_i, isInt_l, isInt_t, isBool_i, isBool_l, isBool_t, isList_i, isList_l, isList_t, isTup_i, isTup_l, isTup_t, isNone_n, isNone_i, isNone_l, isNone_t, Bool.not_true, Bool.not_false, Bool.true_and, Bool.and_true, Bool.false_or, Bool.or_false, List.length_map, List.length_cons, List.length_nil, decide_eq_true_eq, decide_eq_false_iff_not, Bool.and_eq_true, Bool.or_eq_true, Bool.and_eq_false_iff, Bool.or_eq_false_iff, Bool.not_eq_true', Bool.not_eq_false', Bool.not_eq_true, Bool.not_eq_false, bne_iff_ne, beq_iff_eq, ne_eq] at hc1
      refine vk_nil ?_
      refine vk_cons (vs_retNN (vnfst (ve_callN C_l_splits hr (vms_cons (vn 0) (vms_cons (ve_add (vn 1) ve_int) (vms_cons (ve_mod (ve_fdivB (ve_call C_l_cell hr (va_cons (vn 0) (va_cons (vn 1) va_nil)) ⟨_, _, rfl, ⟨hd, by omega⟩, rfl⟩) ve_int (by first | omega | assumption | (simp only [List.length_take, List.length_drop, List.length_append, parts_len, isInt_i, isInt_l, isInt_t, isBool_i, isBool_l, isBool_t, isList_i, isList_l, isList_t, isTup_i, isTup_l, isTup_t, isNone_n, isNone_i, isNone_l, isNone_t, Bool.not_true, Bool.not_false, Bool.true_and, Bool.and_true, Bool.false_or, Bool.or_false, List.length_map, List.length_cons, List.length_nil, decide_eq_true_eq, decide_eq_false_iff_not, Bool.and_eq_true, Bool.or_eq_true, Bool.and_eq_false_iff, Bool.or_eq_false_iff, Bool.not_eq_true', Bool.not_eq_false', Bool.not_eq_true, Bool.not_eq_false, bne_iff_ne, beq_iff_eq, ne_eq] at *; omega) | (simp; done) | (simp at *; omega))) ve_int (by first | omega | assumption | (simp only [List.length_take, List.length_drop, List.length_append, parts_len, isInt_i, isInt_l, isInt_t, isBool_i, isBool_l, isBool_t, isList_i, isList_l, isList_t, isTup_i, isTup_l, isTup_t, isNone_n, isNone_i, isNone_l, isNone_t, Bool.not_true, Bool.not_false, Bool.true_and, Bool.and_true, Bool.false_or, Bool.or_false, List.length_map, List.length_cons, List.length_nil, decide_eq_true_eq, decide_eq_false_iff_not, Bool.and_eq_true, Bool.or_eq_true, Bool.and_eq_false_iff, Bool.or_eq_false_iff, Bool.not_eq_true', Bool.not_eq_false', Bool.not_eq_true, Bool.not_eq_false, bne_iff_ne, beq_iff_eq, ne_eq] at *; omega) | (simp; done) | (simp at *; omega))) (vms_cons ve_int vms_nil)))) ⟨_, _, _, _, rfl, ⟨hd, by omega, by omega, by omega, by decide, by decide⟩, rfl⟩) ve_int) fun o ho => ?_)
      obtain ⟨r0, rfl, hr0⟩ := ho
      refine ⟨r0, rfl, ?_⟩
      try dsimp only at hr0 ⊢
      obtain ⟨v, h1, h2, h3⟩ := hr0
      exact ⟨h1, by omega, h3⟩
end
end My

namespace My
open PySem PySem.Spec PyProof.Rows L2 V3
section
variable {P : Program} {w : World} {K : Fg} {mg : Str → Option Value} {base : Heap} {f : Addr} {fd : FuncData}
def pre_l_least_factor (ds : List PyData) (o : OT) : Prop := ∃ (number0 : Int), ds = [eI number0] ∧ (1 ≤ number0 ∧ number0 < 1000000000000) ∧ o = .leaf (eI (lfac number0))
theorem ok_l_least_factor {k : Nat} (F : Fd K "_law_least_factor" s_l_least_factor f fd) (B : Bl mg) : FnOk P w K mg base CX0 (k + 1) f fd ["number"] (SpD K pre_l_least_factor) := by
  refine fn_ok F sc_l_least_factor (fun ds o h => by obtain ⟨number0, rfl, hpre, rfl⟩ := h; rfl) fun cdv A outer s H E hr ds o h => ?_
  obtain ⟨number0, rfl, hpre, rfl⟩ := h
  refine vk_cons (vs_forR 1 (fun (m0 : Nat) Γ => ∃ (s_factor0 : Option OT), Γ = [some (.leaf (eI number0)), s_factor0] ∧ (∀ k : Int, 2 ≤ k → k < 2 + m0 → ¬ k ∣ number0)) (fun _ => (vi_rng2 ve_int (ve_add (vn 0) ve_int) (by first | omega | assumption | (simp only [List.length_take, List.length_drop, List.length_append, parts_len, isInt_i, isInt_l, isInt_t, isBool_i, isBool_l, isBool_t, isList_i, isList_l, isList_t, isTup_i, isTup_l, isTup_t, isNone_n, isNone_i, isNone_l, isNone_t, Bool.not_true, Bool.not_false, Bool.true_and, Bool.and_true, Bool.false_or, Bool.or_false, List.length_map, List.length_cons, List.length_nil, decide_eq_true_eq, decide_eq_false_iff_not, Bool.and_eq_true, Bool.or_eq_true, Bool.and_eq_false_iff, Bool.or_eq_false_iff, Bool.not_eq_true', Bool.not_eq_false', Bool.not_eq_true, Bool.not_eq_false, bne_iff_ne, beq_iff_eq, ne_eq] at *; omega) | (simp; done) | (simp at *; omega)) B.b_range)) sc_l_least_factor.nd ⟨none, rfl, ?_⟩ (fun m0 factor0 _ hx0 hw0 hw => ?_) (fun _ hw => ?_))
  · skip
    intro k h1 h2
    omega
  · obtain ⟨s_factor0, rfl, hi⟩ := hw
    refine vk_cons (vs_if (vb_cmp (vc_eqI (ve_mod (vn 0) (vn 1) (by first | omega | assumption | (simp only [List.length_take, List.length_drop, List.length_append, parts_len, isInt_i, isInt_l, isInt_t, isBool_i, isBool_l, isBool_t, isList_i, isList_l, isList_t, isTup_i, isTup_l, isTup_t, isNone_n, isNone_i, isNone_l, isNone_t, Bool.not_true, Bool.not_false, Bool.true_and, Bool.and_true, Bool.false_or, Bool.or_false, List.length_map, List.length_cons, List.length_nil, decide_eq_true_eq, decide_eq_false_iff_not, Bool.and_eq_true, Bool.or_eq_true, Bool.and_eq_false_iff, Bool.or_eq_false_iff, Bool.not_eq_true', Bool.not_eq_false', Bool.not_eq_true, Bool.not_eq_false, bne_iff_ne, beq_iff_eq, ne_eq] at *; omega) | (simp; done) | (simp at *; omega))) ve_int)) (fun hc0 => ?_) (fun hc0 => ?_))
    · skip
      try simp only [List.length_take, List.length_drop, List.length_append, parts_len, isInt_i, isInt_l, isInt_t, isBool_i, isBool_l, isBool_t, isList_i, isList_l, isList_t, isTup_i, isTup_l, isTup_t, isNone_n, isNone_i, isNone_l, isNone_t, Bool.not_true, Bool.not_false, Bool.true_and, Bool.and_true, Bool.false_or, Bool.or_false, List.length_map, List.length_cons, List.length_nil, decide_eq_true_eq, decide_eq_false_iff_not, Bool.and_eq_true, Bool.or_eq_true, Bool.and_eq_false_iff, Bool.or_eq_false_iff, Bool.not_eq_true', Bool.not_eq_false', Bool.not_eq_true, Bool.not_eq_false, bne_iff_ne, beq_iff_eq, ne_eq] at hc0
      refine vk_cons (vs_ret (vn 1) ?_)
      refine congrArg (fun z => OT.leaf (eI z)) (?_ : _ = _)
      refine lfac_is (by omega) (by omega) (Int.dvd_of_emod_eq_zero hc0) fun k h1 h2 => hi k h1 (by omega)
    · skip
      try simp only [List.length_take, List.length_drop, List.length_append, parts_len, isInt_i, isInt_l, isInt_t, isBool_i, isBool_l, isBool_t, isList_i, isList_l, isList_t, isTup_i, isTup_l, isTup_t, isNone_n, isNone_i, isNone_l, isNone_t, Bool.not_true, Bool.not_false, Bool.true_and, Bool.and_true, Bool.false_or, Bool.or_false, List.length_map, List.length_cons, List.length_nil, decide_eq_true_eq, decide_eq_false_iff_not, Bool.and_eq_true, Bool.or_eq_true, Bool.and_eq_false_iff, Bool.or_eq_false_iff, Bool.not_eq_true', Bool.not_eq_false', Bool.not_eq_true, Bool.not_eq_false, bne_iff_ne, beq_iff_eq, ne_eq] at hc0
      refine vk_nil ?_
      refine vk_nil ⟨some (.leaf (eI factor0)), rfl, ?_⟩
      intro k h1 h2 h3
      by_cases e : k = factor0
      · subst e
        exact hc0 (Int.emod_eq_zero_of_dvd h3)
      · exact hi k h1 (by omega) h3
  · obtain ⟨s_factor0, rfl, hi⟩ := hw
    refine vk_cons (vs_ret (vn 0) ?_)
    refine congrArg (fun z => OT.leaf (eI z)) (?_ : _ = _)
    refine lfac_small fun h => hi number0 h (by omega) (Int.dvd_refl _)
def pre_l_great (ds : List PyData) (o : OT) : Prop := ∃ (classes0 : List (Int × Int)), ds = [(eL (e2 eI eI)) classes0] ∧ (classes0 ≠ [] ∧ (∀ p ∈ classes0, 1 ≤ p.2) ∧ classes0.length < 100000) ∧ o = .leaf ((e2 eI eI) ((maxP classes0, ((cntP classes0 : Nat) : Int))))
theorem ok_l_great {k : Nat} (F : Fd K "_law_great" s_l_great f fd) (B : Bl mg) : FnOk P w K mg base CX0 (k + 1) f fd ["classes"] (SpD K pre_l_great) := by
  refine fn_ok F sc_l_great (fun ds o h => by obtain ⟨classes0, rfl, ⟨hne, h1, hz⟩, rfl⟩ := h; rfl) fun cdv A outer s H E hr ds o h => ?_
  obtain ⟨classes0, rfl, ⟨hne, h1, hz⟩, rfl⟩ := h
  refine vk_cons (vs_setLcE 1 [("offset", 3), ("period", 4)] (e2 eI eI) eI (vi_list (vn 0)).cc (no_cons (no_none rfl) (no_cons (no_none rfl) no_nil)) (fun _ _ _ _ _ => vg_tup rfl sc_l_great.nd (na_cons 3 (na_cons 4 na_nil))) (by simp) (by simp) (by first | omega | assumption | (simp only [List.length_take, List.length_drop, List.length_append, parts_len, isInt_i, isInt_l, isInt_t, isBool_i, isBool_l, isBool_t, isList_i, isList_l, isList_t, isTup_i, isTup_l, isTup_t, isNone_n, isNone_i, isNone_l, isNone_t, Bool.not_true, Bool.not_false, Bool.true_and, Bool.and_true, Bool.false_or, Bool.or_false, List.length_map, List.length_cons, List.length_nil, decide_eq_true_eq, decide_eq_false_iff_not, Bool.and_eq_true, Bool.or_eq_true, Bool.and_eq_false_iff, Bool.or_eq_false_iff, Bool.not_eq_true', Bool.not_eq_false', Bool.not_eq_true, Bool.not_eq_false, bne_iff_ne, beq_iff_eq, ne_eq] at *; omega) | (simp; done) | (simp at *; omega)) sc_l_great.nd (blkOk_by (show blkC N_l_great (defScope s_l_great) _ _ = true by decide +kernel)) (fun xa hxa =>  ⟨_, rfl, fun _ _ _ _ _ => ⟨vts_nil, fun hxp => (vn 4)⟩⟩) fun periods0 h_periods0 => ?_)
  refine vk_frz 1 rfl ?_
  have ep : periods0 = classes0.map (·.2) := by rw [h_periods0, filter_true]
  obtain ⟨q, hq1, hq2⟩ := maxP_mem hne h1
  have hpl : 0 < periods0.length := by rw [ep, List.length_map]; exact List.length_pos_iff.mpr hne
  refine vk_cons (vs_setG 2 eI (ve_maxL (m := maxP classes0) rfl (vn 1).v hpl (by rw [ep]; exact List.mem_map.mpr ⟨q, hq1, hq2⟩) (by rw [ep]; exact fun y hy => max_ge hy) B.b_max) sc_l_great.nd fun most0 h_most0 => ?_)
  refine vk_cons (vs_ret (vtup2 (ea := eI) (eb := eI) (vn 2) (vlenE (vlcE [("period", 4)] eI eI (vi_list (vn 1)).cc (no_cons (no_none rfl) no_nil) (fun _ _ _ _ _ => vg_name 4 sc_l_great.nd) (by simp) (by simp) (by rw [ep, List.length_map]; omega) sc_l_great.nd (blkOk_by (show blkC N_l_great (defScope s_l_great) _ _ = true by decide +kernel)) (fun xa hxa =>  ⟨_, rfl, fun _ _ _ _ _ => ⟨(vts_one (vb_cmp (vc_eqI (vn 4) (vn 2)))), fun hxp => (vn 4)⟩⟩)).vl B.b_len)) ?_)
  refine congrArg (fun z => OT.leaf ((e2 eI eI) z)) (?_ : _ = _)
  rw [h_most0, ep, List.map_id', ← List.countP_eq_length_filter]
  rfl
def pre_l_told (ds : List PyData) (o : OT) : Prop := ∃ (classes0 : List (Int × Int)), ds = [(eL (e2 eI eI)) classes0] ∧ (Part classes0 ∧ Srt classes0 ∧ Big classes0 ∧ classes0.length < 80000 ∧ ∀ p ∈ classes0, p.2 ≤ 10000000) ∧ o = .leaf (eB (true))
theorem ok_l_told {k : Nat} (F : Fd K "_law_told" s_l_told f fd) (B : Bl mg) (C_l_great : Cal P w K mg base k "_law_great" 1 (SpD K pre_l_great)) (C_l_is_pair : Cal P w K mg base k "_law_is_pair" 1 (SpD K pre_l_is_pair)) (C_l_is_parting : Cal P w K mg base k "_law_is_parting" 1 (SpD K pre_l_is_parting)) (C_l_least_factor : Cal P w K mg base k "_law_least_factor" 1 (SpD K pre_l_least_factor)) (C_p_greatest_period : Cal P w K mg base k "greatest_period" 1 (SpD K pre_p_greatest_period)) (C_p_is_parting : Cal P w K mg base k "is_parting" 1 (SpD K pre_p_is_parting)) : FnOk P w K mg base CX0 (k + 1) f fd ["classes"] (SpD K pre_l_told) := by
  refine fn_ok F sc_l_told (fun ds o h => by obtain ⟨classes0, rfl, ⟨hp, hs, hB, hz, hb⟩, rfl⟩ := h; rfl) fun cdv A outer s H E hr ds o h => ?_
  obtain ⟨classes0, rfl, ⟨hp, hs, hB, hz, hb⟩, rfl⟩ := h
  have h1 : ∀ p ∈ classes0, 1 ≤ p.2 := fun p hm => (hp.ok p hm).1
  obtain ⟨q, hq1, hq2⟩ := maxP_mem hp.ne h1
  have hM := h1 q hq1
  have hM2 := hb q hq1
  have hfil : fillB classes0 = true := decide_eq_true hp.fill
  refine vk_cons (vs_setG 1 (eL (e2 eI eI)) (ve_listOf (vn 0).lsE B.b_list).frzE sc_l_told.nd fun passed0 h_passed0 => ?_)
  refine vk_cons (vs_setG 2 (e2 eI eI) (ve_call C_l_great hr (va_cons (vn 0) va_nil) ⟨_, rfl, ⟨hp.ne, h1, by omega⟩, rfl⟩) sc_l_told.nd fun due0 h_due0 => ?_)
  refine vk_cons (vs_setG 3 (e2 eI eI) (ve_call C_p_greatest_period hr (va_cons (vn 1) va_nil) ⟨_, rfl, ⟨by rw [h_passed0]; exact hp.ne, by rw [h_passed0]; exact h1, by rw [h_passed0]; omega⟩, rfl⟩) sc_l_told.nd fun told0 h_told0 => ?_)
  refine vk_cons (vs_if (VW.tb (vw_or (vb_cmp (vneE (en := (eL (e2 eI eI))) (roomy hr) (geL (ge2 geI geI)) (vn 1).v (vn 0).v)) (fun hq2 => (vw_or (vb_not (vb_val (ve_call C_l_is_pair hr (va_cons (vn 3) va_nil) ⟨_, rfl, rfl⟩))) (fun hq1 => (vw_or1 (vb_cmp (vneE (en := (e2 eI eI)) (roomy hr) (ge2 geI geI) (vn 3).v (vn 2).v)))))))) (fun hc0 => ?_) (fun hc0 => ?_))
  · skip
    try simp only [List.length_take, List.length_drop, List.length_append, parts_len, isInt_i, isInt_l, isInt_t, isBool_i, isBool_l, isBool_t, isList_i, isList_l, isList_t, isTup_i, isTup_l, isTup_t, isNone_n, isNone_i, isNone_l, isNone_t, Bool.not_true, Bool.not_false, Bool.true_and, Bool.and_true, Bool.false_or, Bool.or_false, List.length_map, List.length_cons, List.length_nil, decide_eq_true_eq, decide_eq_false_iff_not, Bool.and_eq_true, Bool.or_eq_true, Bool.and_eq_false_iff, Bool.or_eq_false_iff, Bool.not_eq_true', Bool.not_eq_false', Bool.not_eq_true, Bool.not_eq_false, bne_iff_ne, beq_iff_eq, ne_eq] at hc0
    refine vk_cons (vs_ret ve_bl ?_)
    refine congrArg (fun z => OT.leaf (eB z)) (?_ : _ = _)
    exfalso
    rcases hc0 with h | h
    · exact h h_passed0
    · rw [h_told0, h_due0, h_passed0] at h
      exact h rfl
  · skip
    try simp only [List.length_take, List.length_drop, List.length_append, parts_len, isInt_i, isInt_l, isInt_t, isBool_i, isBool_l, isBool_t, isList_i, isList_l, isList_t, isTup_i, isTup_l, isTup_t, isNone_n, isNone_i, isNone_l, isNone_t, Bool.not_true, Bool.not_false, Bool.true_and, Bool.and_true, Bool.false_or, Bool.or_false, List.length_map, List.length_cons, List.length_nil, decide_eq_true_eq, decide_eq_false_iff_not, Bool.and_eq_true, Bool.or_eq_true, Bool.and_eq_false_iff, Bool.or_eq_false_iff, Bool.not_eq_true', Bool.not_eq_false', Bool.not_eq_true, Bool.not_eq_false, bne_iff_ne, beq_iff_eq, ne_eq] at hc0
    refine vk_nil ?_
    refine vk_cons (vs_if (VW.tb (vw_or (vb_not (vb_val (ve_call C_l_is_parting hr (va_cons (vn 0) va_nil) ⟨_, rfl, ⟨hp, hs, by omega, fun p hm => by have := hb p hm; omega⟩, rfl⟩))) (fun hq3 => (vw_or1 (vb_cmp (vc_notB (ve_call C_p_is_parting hr (va_cons (vn 1) va_nil) ⟨_, rfl, ⟨by rw [h_passed0]; exact hp.ne, by rw [h_passed0]; exact hp.ok, by rw [h_passed0]; exact hs, by rw [h_passed0]; exact hp.apart, by rw [h_passed0]; omega, by rw [h_passed0]; exact fun p hm => by have := hb p hm; omega⟩, rfl⟩) ve_bl)))))) (fun hc1 => ?_) (fun hc1 => ?_))
    · skip
      try simp only [List.length_take, List.length_drop, List.length_append, parts_len, isInt_i, isInt_l, isInt_t, isBool_i, isBool_l, isBool_t, isList_i, isList_l, isList_t, isTup_i, isTup_l, isTup_t, isNone_n, isNone_i, isNone_l, isNone_t, Bool.not_true, Bool.not_false, Bool.true_and, Bool.and_true, Bool.false_or, Bool.or_false, List.length_map, List.length_cons, List.length_nil, decide_eq_true_eq, decide_eq_false_iff_not, Bool.and_eq_true, Bool.or_eq_true, Bool.and_eq_false_iff, Bool.or_eq_false_iff, Bool.not_eq_true', Bool.not_eq_false', Bool.not_eq_true, Bool.not_eq_false, bne_iff_ne, beq_iff_eq, ne_eq] at hc1
      refine vk_cons (vs_ret ve_bl ?_)
      refine congrArg (fun z => OT.leaf (eB z)) (?_ : _ = _)
      rw [h_passed0, hfil] at hc1
      exact absurd hc1 (by decide)
    · skip
      try simp only [List.length_take, List.length_drop, List.length_append, parts_len, isInt_i, isInt_l, isInt_t, isBool_i, isBool_l, isBool_t, isList_i, isList_l, isList_t, isTup_i, isTup_l, isTup_t, isNone_n, isNone_i, isNone_l, isNone_t, Bool.not_true, Bool.not_false, Bool.true_and, Bool.and_true, Bool.false_or, Bool.or_false, List.length_map, List.length_cons, List.length_nil, decide_eq_true_eq, decide_eq_false_iff_not, Bool.and_eq_true, Bool.or_eq_true, Bool.and_eq_false_iff, Bool.or_eq_false_iff, Bool.not_eq_true', Bool.not_eq_false', Bool.not_eq_true, Bool.not_eq_false, bne_iff_ne, beq_iff_eq, ne_eq] at hc1
      refine vk_nil ?_
      refine vk_cons (vs_ret (ve_orV (ve_cmp (vc_eqI (vlenE (vn 0).lsE B.b_len) ve_int)) (fun hq4 => (ve_one (ve_cmp (vc_ge (vsnd (vn 3) ve_int) (ve_call C_l_least_factor hr (va_cons (vfst (vn 3) ve_int) va_nil) ⟨_, rfl, ⟨by rw [h_told0, h_passed0]; show 1 ≤ maxP classes0; omega, by rw [h_told0, h_passed0]; show maxP classes0 < _; omega⟩, rfl⟩)))))) ?_)
      refine congrArg (fun z => OT.leaf (eB z)) (?_ : _ = _)
      rw [h_told0, h_passed0]
      rcases hB with h | h
      · simp [h]
      · simp only [Bool.or_eq_true, decide_eq_true_eq]
        exact .inr h
def pre_l_fewer (ds : List PyData) (o : OT) : Prop := ∃ (classes0 : List (Int × Int)), ds = [(eL (e2 eI eI)) classes0] ∧ (classes0 ≠ [] ∧ (∀ p ∈ classes0, 1 ≤ p.2) ∧ (∀ p ∈ classes0, p.2 ≤ 10000000) ∧ classes0.length < 100000) ∧ o = .leaf ((eL (e2 eI eI)) (fewF classes0 (maxP classes0) (lfac (maxP classes0) - 1)))
theorem ok_l_fewer {k : Nat} (F : Fd K "_law_fewer" s_l_fewer f fd) (B : Bl mg) (C_l_great : Cal P w K mg base k "_law_great" 1 (SpD K pre_l_great)) (C_l_least_factor : Cal P w K mg base k "_law_least_factor" 1 (SpD K pre_l_least_factor)) : FnOk P w K mg base CX0 (k + 1) f fd ["classes"] (SpD K pre_l_fewer) := by
  refine fn_ok F sc_l_fewer (fun ds o h => by obtain ⟨classes0, rfl, ⟨hne, h1, hb, hz⟩, rfl⟩ := h; rfl) fun cdv A outer s H E hr ds o h => ?_
  obtain ⟨classes0, rfl, ⟨hne, h1, hb, hz⟩, rfl⟩ := h
  refine vk_cons (vs_asg2 1 2 (ve_call C_l_great hr (va_cons (vn 0) va_nil) ⟨_, rfl, ⟨hne, h1, hz⟩, rfl⟩) sc_l_fewer.nd (na_cons 1 (na_cons 2 na_nil)) fun most0 count0 h_most0 => ?_)
  obtain ⟨q, hq1, hq2⟩ := maxP_mem hne h1
  have em : most0 = maxP classes0 := congrArg Prod.fst h_most0
  have hmm : 1 ≤ most0 ∧ most0 < 1000000000000 := by have := h1 q hq1; have := hb q hq1; omega
  refine vk_cons (vs_setG 3 eI (ve_sub (ve_call C_l_least_factor hr (va_cons (vn 1) va_nil) ⟨_, rfl, hmm, rfl⟩) ve_int) sc_l_fewer.nd fun few0 h_few0 => ?_)
  refine vk_cons (vs_setO 4 (e2 eI eI) (vdispE (vae_nil _)) sc_l_fewer.nd fun kept0 h_kept0 => ?_)
  refine vk_cons (vs_forN (en := (e2 eI eI)) 5 (fun (m0 : Nat) Γ => ∃ (few1 : Int) (kept1 : List (Int × Int)) (s_one0 : Option OT), Γ = [some (.leaf ((eL (e2 eI eI)) classes0)), some (.leaf (eI most0)), some (.leaf (eI count0)), some (.leaf (eI few1)), some (.lst (lfs (kept1.map (e2 eI eI)))), s_one0] ∧ ((kept1, few1) = (classes0.take m0).foldl (stepF most0) ([], few0) ∧ kept1.length ≤ m0)) (fun _ => (vi_list (vn 0))) sc_l_fewer.nd ⟨few0, kept0, none, rfl, ?_⟩ (fun m0 one0 _ hx0 hw => ?_) (fun _ hw => ?_))
  · skip
    subst h_kept0
    exact ⟨rfl, by simp⟩
  · obtain ⟨few1, kept1, s_one0, rfl, ⟨hk, hkl⟩⟩ := hw
    have hml := (List.getElem?_eq_some_iff.mp hx0).1
    refine vk_cons (vs_if (VW.tb (vw_or (vb_cmp (vc_lt (vsnd (vn 5) ve_int) (vn 1))) (fun hq1 => (vw_or1 (vb_cmp (vc_gt (vn 3) ve_int)))))) (fun hc0 => ?_) (fun hc0 => ?_))
    · skip
      try simp only [List.length_take, List.length_drop, List.length_append, parts_len, isInt_i, isInt_l, isInt_t, isBool_i, isBool_l, isBool_t, isList_i, isList_l, isList_t, isTup_i, isTup_l, isTup_t, isNone_n, isNone_i, isNone_l, isNone_t, Bool.not_true, Bool.not_false, Bool.true_and, Bool.and_true, Bool.false_or, Bool.or_false, List.length_map, List.length_cons, List.length_nil, decide_eq_true_eq, decide_eq_false_iff_not, Bool.and_eq_true, Bool.or_eq_true, Bool.and_eq_false_iff, Bool.or_eq_false_iff, Bool.not_eq_true', Bool.not_eq_false', Bool.not_eq_true, Bool.not_eq_false, bne_iff_ne, beq_iff_eq, ne_eq] at hc0
      refine vk_cons (vs_appE 4 (e2 eI eI) (vn 5) ⟨_, rfl⟩ rfl (by first | omega | assumption | (simp only [List.length_take, List.length_drop, List.length_append, parts_len, isInt_i, isInt_l, isInt_t, isBool_i, isBool_l, isBool_t, isList_i, isList_l, isList_t, isTup_i, isTup_l, isTup_t, isNone_n, isNone_i, isNone_l, isNone_t, Bool.not_true, Bool.not_false, Bool.true_and, Bool.and_true, Bool.false_or, Bool.or_false, List.length_map, List.length_cons, List.length_nil, decide_eq_true_eq, decide_eq_false_iff_not, Bool.and_eq_true, Bool.or_eq_true, Bool.and_eq_false_iff, Bool.or_eq_false_iff, Bool.not_eq_true', Bool.not_eq_false', Bool.not_eq_true, Bool.not_eq_false, bne_iff_ne, beq_iff_eq, ne_eq] at *; omega) | (simp; done) | (simp at *; omega)) ?_)
      generalize h_kept2 : kept1 ++ [_] = kept2
      have hl_kept2 : kept2.length = kept1.length + 1 := by rw [← h_kept2, List.length_append]; rfl
      refine vk_cons (vs_setG 3 eI (ve_sub (vn 3) (ve_intB (ve_cmp (vc_eqI (vsnd (vn 5) ve_int) (vn 1))) B.b_int)) sc_l_fewer.nd fun few2 h_few2 => ?_)
      refine vk_nil ?_
      refine vk_nil ⟨few2, kept2, some (.leaf ((e2 eI eI) one0)), rfl, ?_⟩
      refine ⟨?_, by omega⟩
      rw [take_succ_of hx0, List.foldl_append, ← hk, ← h_kept2, h_few2]
      simp only [List.foldl_cons, List.foldl_nil, stepF]
      rw [if_pos hc0]
      simp only [decide_eq_true_eq]
    · skip
      try simp only [List.length_take, List.length_drop, List.length_append, parts_len, isInt_i, isInt_l, isInt_t, isBool_i, isBool_l, isBool_t, isList_i, isList_l, isList_t, isTup_i, isTup_l, isTup_t, isNone_n, isNone_i, isNone_l, isNone_t, Bool.not_true, Bool.not_false, Bool.true_and, Bool.and_true, Bool.false_or, Bool.or_false, List.length_map, List.length_cons, List.length_nil, decide_eq_true_eq, decide_eq_false_iff_not, Bool.and_eq_true, Bool.or_eq_true, Bool.and_eq_false_iff, Bool.or_eq_false_iff, Bool.not_eq_true', Bool.not_eq_false', Bool.not_eq_true, Bool.not_eq_false, bne_iff_ne, beq_iff_eq, ne_eq] at hc0
      refine vk_nil ?_
      refine vk_nil ⟨few1, kept1, some (.leaf ((e2 eI eI) one0)), rfl, ?_⟩
      refine ⟨?_, by omega⟩
      rw [take_succ_of hx0, List.foldl_append, ← hk]
      simp only [List.foldl_cons, List.foldl_nil, stepF]
      rw [if_neg (by omega)]
  · obtain ⟨few1, kept1, s_one0, rfl, ⟨hk, hkl⟩⟩ := hw
    refine vk_cons (vs_ret (VM.frzE (vmv 4)) ?_)
    refine congrArg (fun z => OT.leaf ((eL (e2 eI eI)) z)) (?_ : _ = _)
    rw [List.take_length, em, h_few0, em] at hk
    exact congrArg Prod.fst hk
end
end My

namespace My
open PySem PySem.Spec PyProof.Rows L2 V3
section
variable {P : Program} {w : World} {K : Fg} {mg : Str → Option Value} {base : Heap} {f : Addr} {fd : FuncData}
def pre_l_all (os : List OT) (P : OT → Prop) : Prop := ∃ (n0 : Int), os = [.leaf (eI n0)] ∧ (n0 = 4 ∨ n0 = 6) ∧ P = (someD (eL (eL (e2 eI eI))) fun res => (∀ cs ∈ res, GoodL n0.toNat cs) ∧ res.length ≤ 10000)
theorem ok_l_all {k : Nat} (F : Fd K "_law_all" s_l_all f fd) (B : Bl mg) : FnOk P w K mg base CX0 (k + 1) f fd ["n"] (SpN K pre_l_all) := by
  refine fn_okN F sc_l_all (fun ds o h => by obtain ⟨n0, rfl, hpre, rfl⟩ := h; rfl) fun cdv A outer s H E hr ds o h => ?_
  obtain ⟨n0, rfl, hpre, rfl⟩ := h
  refine vk_cons (vs_setO 1 (eL (e2 eI eI)) (vdispE (vae_nil _)) sc_l_all.nd fun found0 h_found0 => ?_)
  refine vk_cons (vs_setO 2 (eL (e2 eI eI)) (vdispE (vae_cons (vdispE (vae_nil (e2 eI eI))).frzE (vae_nil (eL (e2 eI eI))))) sc_l_all.nd fun stack0 h_stack0 => ?_)
  refine vk_seq (fun Γ => ∃ (found1 : List (List (Int × Int))) (stack1 : List (List (Int × Int))) (s_turn0 : Option OT) (s_classes0 : Option OT) (s_free0 : Option OT) (s_period0 : Option OT), Γ = [some (.leaf (eI n0)), some (.lst (lfs (found1.map (eL (e2 eI eI))))), some (.lst (lfs (stack1.map (eL (e2 eI eI))))), s_turn0, s_classes0, s_free0, s_period0, none, none] ∧ ((∀ cs ∈ found1, GoodL n0.toNat cs) ∧ found1.length ≤ 10000)) ?_ ?_
  · skip
    refine (vs_forR 3 (fun (m0 : Nat) Γ => ∃ (found2 : List (List (Int × Int))) (stack2 : List (List (Int × Int))) (s_turn1 : Option OT) (s_classes1 : Option OT) (s_free1 : Option OT) (s_period1 : Option OT), Γ = [some (.leaf (eI n0)), some (.lst (lfs (found2.map (eL (e2 eI eI))))), some (.lst (lfs (stack2.map (eL (e2 eI eI))))), s_turn1, s_classes1, s_free1, s_period1, none, none] ∧ ((∀ cs ∈ found2, GoodL n0.toNat cs) ∧ found2.length ≤ m0 ∧ (∀ cs ∈ stack2, Pg n0.toNat cs ∧ cs.length ≤ m0) ∧ stack2.length ≤ 1 + 6 * m0)) (fun _ => (vi_rng1 ve_int (by first | omega | assumption | (simp only [List.length_take, List.length_drop, List.length_append, parts_len, isInt_i, isInt_l, isInt_t, isBool_i, isBool_l, isBool_t, isList_i, isList_l, isList_t, isTup_i, isTup_l, isTup_t, isNone_n, isNone_i, isNone_l, isNone_t, Bool.not_true, Bool.not_false, Bool.true_and, Bool.and_true, Bool.false_or, Bool.or_false, List.length_map, List.length_cons, List.length_nil, decide_eq_true_eq, decide_eq_false_iff_not, Bool.and_eq_true, Bool.or_eq_true, Bool.and_eq_false_iff, Bool.or_eq_false_iff, Bool.not_eq_true', Bool.not_eq_false', Bool.not_eq_true, Bool.not_eq_false, bne_iff_ne, beq_iff_eq, ne_eq] at *; omega) | (simp; done) | (simp at *; omega)) B.b_range)) sc_l_all.nd ⟨found0, stack0, none, none, none, none, rfl, ?_⟩ (fun m0 turn0 _ hx0 hw0 hw => ?_) (fun _ hw => ?_))
    · skip
      subst h_found0 h_stack0
      refine ⟨fun cs h => (by cases h), by simp, fun cs h => ?_, by simp⟩
      cases List.mem_singleton.mp h
      exact ⟨Pg.nil _, by simp⟩
    · obtain ⟨found2, stack2, s_turn1, s_classes1, s_free1, s_period1, rfl, ⟨hf, hfl, hst, hsl⟩⟩ := hw
      have hm0 : m0 < 10000 := hx0
      refine vk_cons (vs_if (vb_cmp (vc_eqI (vlenE (vo 2) B.b_len) ve_int)) (fun hc0 => ?_) (fun hc0 => ?_))
      · skip
        try simp only [List.length_take, List.length_drop, List.length_append, parts_len, isInt_i, isInt_l, isInt_t, isBool_i, isBool_l, isBool_t, isList_i, isList_l, isList_t, isTup_i, isTup_l, isTup_t, isNone_n, isNone_i, isNone_l, isNone_t, Bool.not_true, Bool.not_false, Bool.true_and, Bool.and_true, Bool.false_or, Bool.or_false, List.length_map, List.length_cons, List.length_nil, decide_eq_true_eq, decide_eq_false_iff_not, Bool.and_eq_true, Bool.or_eq_true, Bool.and_eq_false_iff, Bool.or_eq_false_iff, Bool.not_eq_true', Bool.not_eq_false', Bool.not_eq_true, Bool.not_eq_false, bne_iff_ne, beq_iff_eq, ne_eq] at hc0
        refine vk_cons (vs_break ?_)
        refine ⟨found2, stack2, some (.leaf (eI turn0)), s_classes1, s_free1, s_period1, rfl, ?_⟩
        exact ⟨hf, by omega⟩
      · skip
        try simp only [List.length_take, List.length_drop, List.length_append, parts_len, isInt_i, isInt_l, isInt_t, isBool_i, isBool_l, isBool_t, isList_i, isList_l, isList_t, isTup_i, isTup_l, isTup_t, isNone_n, isNone_i, isNone_l, isNone_t, Bool.not_true, Bool.not_false, Bool.true_and, Bool.and_true, Bool.false_or, Bool.or_false, List.length_map, List.length_cons, List.length_nil, decide_eq_true_eq, decide_eq_false_iff_not, Bool.and_eq_true, Bool.or_eq_true, Bool.and_eq_false_iff, Bool.or_eq_false_iff, Bool.not_eq_true', Bool.not_eq_false', Bool.not_eq_true, Bool.not_eq_false, bne_iff_ne, beq_iff_eq, ne_eq] at hc0
        refine vk_nil ?_
        refine vk_cons (vs_popN 4 2 (eL (e2 eI eI)) rfl (fun e => hc0 (by rw [e]; rfl)) sc_l_all.nd fun stack3 classes0 hp0 => ?_)
        have hcl := hst classes0 (by rw [hp0]; simp)
        obtain ⟨hPg, hlen⟩ := hcl
        have hnR : n0.toNat ∈ smallR := by rcases hpre with e | e <;> rw [e] <;> decide
        refine vk_cons (vs_setG 5 (eL eI) (vlcE [("day", 7)] eI eI (vi_rg (vi_rng1 (vn 0) (by first | omega | assumption | (simp only [List.length_take, List.length_drop, List.length_append, parts_len, isInt_i, isInt_l, isInt_t, isBool_i, isBool_l, isBool_t, isList_i, isList_l, isList_t, isTup_i, isTup_l, isTup_t, isNone_n, isNone_i, isNone_l, isNone_t, Bool.not_true, Bool.not_false, Bool.true_and, Bool.and_true, Bool.false_or, Bool.or_false, List.length_map, List.length_cons, List.length_nil, decide_eq_true_eq, decide_eq_false_iff_not, Bool.and_eq_true, Bool.or_eq_true, Bool.and_eq_false_iff, Bool.or_eq_false_iff, Bool.not_eq_true', Bool.not_eq_false', Bool.not_eq_true, Bool.not_eq_false, bne_iff_ne, beq_iff_eq, ne_eq] at *; omega) | (simp; done) | (simp at *; omega)) B.b_range)).cc (no_cons (no_none rfl) no_nil) (fun _ _ _ _ _ => vg_name 7 sc_l_all.nd) (by simp) (by simp) (by first | omega | assumption | (simp only [List.length_take, List.length_drop, List.length_append, parts_len, isInt_i, isInt_l, isInt_t, isBool_i, isBool_l, isBool_t, isList_i, isList_l, isList_t, isTup_i, isTup_l, isTup_t, isNone_n, isNone_i, isNone_l, isNone_t, Bool.not_true, Bool.not_false, Bool.true_and, Bool.and_true, Bool.false_or, Bool.or_false, List.length_map, List.length_cons, List.length_nil, decide_eq_true_eq, decide_eq_false_iff_not, Bool.and_eq_true, Bool.or_eq_true, Bool.and_eq_false_iff, Bool.or_eq_false_iff, Bool.not_eq_true', Bool.not_eq_false', Bool.not_eq_true, Bool.not_eq_false, bne_iff_ne, beq_iff_eq, ne_eq] at *; omega) | (simp; done) | (simp at *; omega)) sc_l_all.nd (blkOk_by (show blkC N_l_all (defScope s_l_all) _ _ = true by decide +kernel)) (fun xa hxa =>  ⟨_, rfl, fun _ _ _ _ _ => ⟨(vts_one (vb_cmp (veqE (en := (eL (e2 eI eI))) (roomy hr) (geL (ge2 geI geI)) (vlcE [("one", 8)] (e2 eI eI) (e2 eI eI) (vi_list (vn 4)).cc (no_cons (no_none rfl) no_nil) (fun _ _ _ _ _ => vg_name 8 sc_l_all.nd) (by simp) (by simp) (by first | omega | assumption | (simp only [List.length_take, List.length_drop, List.length_append, parts_len, isInt_i, isInt_l, isInt_t, isBool_i, isBool_l, isBool_t, isList_i, isList_l, isList_t, isTup_i, isTup_l, isTup_t, isNone_n, isNone_i, isNone_l, isNone_t, Bool.not_true, Bool.not_false, Bool.true_and, Bool.and_true, Bool.false_or, Bool.or_false, List.length_map, List.length_cons, List.length_nil, decide_eq_true_eq, decide_eq_false_iff_not, Bool.and_eq_true, Bool.or_eq_true, Bool.and_eq_false_iff, Bool.or_eq_false_iff, Bool.not_eq_true', Bool.not_eq_false', Bool.not_eq_true, Bool.not_eq_false, bne_iff_ne, beq_iff_eq, ne_eq] at *; omega) | (simp; done) | (simp at *; omega)) sc_l_all.nd (blkOk_by (by kernel_rfl)) (fun xa2 hxa2 => have hq := ((hPg.ok _ hxa2).1).1; ⟨_, rfl, fun _ _ _ _ _ => ⟨(vts_one (vb_cmp (vc_eqI (ve_mod (vn 7) (vsnd (vn 8) ve_int) (by first | omega | assumption | (simp only [List.length_take, List.length_drop, List.length_append, parts_len, isInt_i, isInt_l, isInt_t, isBool_i, isBool_l, isBool_t, isList_i, isList_l, isList_t, isTup_i, isTup_l, isTup_t, isNone_n, isNone_i, isNone_l, isNone_t, Bool.not_true, Bool.not_false, Bool.true_and, Bool.and_true, Bool.false_or, Bool.or_false, List.length_map, List.length_cons, List.length_nil, decide_eq_true_eq, decide_eq_false_iff_not, Bool.and_eq_true, Bool.or_eq_true, Bool.and_eq_false_iff, Bool.or_eq_false_iff, Bool.not_eq_true', Bool.not_eq_false', Bool.not_eq_true, Bool.not_eq_false, bne_iff_ne, beq_iff_eq, ne_eq] at *; omega) | (simp; done) | (simp at *; omega))) (vfst (vn 8) ve_int)))), fun hxp => (vn 8)⟩⟩)).vl.vE (vdispE (vae_nil _)).vl.vE))), fun hxp => (vn 7)⟩⟩)).frzE sc_l_all.nd fun free0 h_free0 => ?_)
        have hfr := mem_free (fun p hp => (hPg.ok p hp).1) h_free0
        refine vk_cons (vs_if (vb_cmp (veqE (en := (eL eI)) (roomy hr) (geL geI) (vn 5).v (vdispE (vae_nil _)).vl.vE)) (fun hc1 => ?_) (fun hc1 => ?_))
        · skip
          try simp only [List.length_take, List.length_drop, List.length_append, parts_len, isInt_i, isInt_l, isInt_t, isBool_i, isBool_l, isBool_t, isList_i, isList_l, isList_t, isTup_i, isTup_l, isTup_t, isNone_n, isNone_i, isNone_l, isNone_t, Bool.not_true, Bool.not_false, Bool.true_and, Bool.and_true, Bool.false_or, Bool.or_false, List.length_map, List.length_cons, List.length_nil, decide_eq_true_eq, decide_eq_false_iff_not, Bool.and_eq_true, Bool.or_eq_true, Bool.and_eq_false_iff, Bool.or_eq_false_iff, Bool.not_eq_true', Bool.not_eq_false', Bool.not_eq_true, Bool.not_eq_false, bne_iff_ne, beq_iff_eq, ne_eq] at hc1
          refine vk_cons (vs_appE 1 (eL (e2 eI eI)) (ve_sortE (roomy hr) seP (vn 4).lsE B.b_sorted).frzE ⟨_, rfl⟩ rfl (by first | omega | assumption | (simp only [List.length_take, List.length_drop, List.length_append, parts_len, isInt_i, isInt_l, isInt_t, isBool_i, isBool_l, isBool_t, isList_i, isList_l, isList_t, isTup_i, isTup_l, isTup_t, isNone_n, isNone_i, isNone_l, isNone_t, Bool.not_true, Bool.not_false, Bool.true_and, Bool.and_true, Bool.false_or, Bool.or_false, List.length_map, List.length_cons, List.length_nil, decide_eq_true_eq, decide_eq_false_iff_not, Bool.and_eq_true, Bool.or_eq_true, Bool.and_eq_false_iff, Bool.or_eq_false_iff, Bool.not_eq_true', Bool.not_eq_false', Bool.not_eq_true, Bool.not_eq_false, bne_iff_ne, beq_iff_eq, ne_eq] at *; omega) | (simp; done) | (simp at *; omega)) ?_)
          generalize h_found3 : found2 ++ [_] = found3
          have hl_found3 : found3.length = found2.length + 1 := by rw [← h_found3, List.length_append]; rfl
          refine vk_nil ?_
          refine vk_nil ⟨found3, stack3, some (.leaf (eI turn0)), some (.leaf ((eL (e2 eI eI)) classes0)), some (.leaf ((eL eI) free0)), s_period1, rfl, ?_⟩
          have hst2 : ∀ cs ∈ stack3, Pg n0.toNat cs ∧ cs.length ≤ m0 := fun cs h => hst cs (by rw [hp0]; exact List.mem_append_left _ h)
          have hsl2 : stack3.length + 1 = stack2.length := by rw [hp0, List.length_append]; rfl
          refine ⟨fun cs h => ?_, by omega, fun cs h => ⟨(hst2 cs h).1, by have := (hst2 cs h).2; omega⟩, by omega⟩
          rw [← h_found3] at h
          rcases List.mem_append.mp h with h | h
          · exact hf cs h
          · cases List.mem_singleton.mp h
            have hP : Part classes0 := hPg.part (by omega) fun x h0 h1 z => by
              have := (hfr x).mpr ⟨⟨h0, by omega⟩, z⟩
              rw [hc1] at this
              cases this
            have hB := hP.bigSmall hnR fun p hp => (hPg.ok p hp).2
            exact ⟨hP.sorted, hP.srt, hB.sorted hP, sorted_all fun p hp => Int.le_of_dvd (by omega) (hPg.ok p hp).2, by rw [List.length_mergeSort]; omega⟩
        · skip
          try simp only [List.length_take, List.length_drop, List.length_append, parts_len, isInt_i, isInt_l, isInt_t, isBool_i, isBool_l, isBool_t, isList_i, isList_l, isList_t, isTup_i, isTup_l, isTup_t, isNone_n, isNone_i, isNone_l, isNone_t, Bool.not_true, Bool.not_false, Bool.true_and, Bool.and_true, Bool.false_or, Bool.or_false, List.length_map, List.length_cons, List.length_nil, decide_eq_true_eq, decide_eq_false_iff_not, Bool.and_eq_true, Bool.or_eq_true, Bool.and_eq_false_iff, Bool.or_eq_false_iff, Bool.not_eq_true', Bool.not_eq_false', Bool.not_eq_true, Bool.not_eq_false, bne_iff_ne, beq_iff_eq, ne_eq] at hc1
          have hfl0 : 0 < free0.length := List.length_pos_iff.mpr hc1
          have hd0 := (hfr (free0.getD (Int.toNat 0) 0)).mp (getD_memA hfl0 _)
          refine vk_cons (vs_forR 6 (fun (m1 : Nat) Γ => ∃ (stack4 : List (List (Int × Int))) (s_period2 : Option OT), Γ = [some (.leaf (eI n0)), some (.lst (lfs (found2.map (eL (e2 eI eI))))), some (.lst (lfs (stack4.map (eL (e2 eI eI))))), some (.leaf (eI turn0)), some (.leaf ((eL (e2 eI eI)) classes0)), some (.leaf ((eL eI) free0)), s_period2, none, none] ∧ ((∀ cs ∈ stack4, Pg n0.toNat cs ∧ cs.length ≤ m0 + 1) ∧ stack4.length ≤ 6 * m0 + m1)) (fun _ => (vi_rng2 (ve_add (vixE (0 : Int) (vn 5).lsE ve_int (by first | omega | assumption | (simp only [List.length_take, List.length_drop, List.length_append, parts_len, isInt_i, isInt_l, isInt_t, isBool_i, isBool_l, isBool_t, isList_i, isList_l, isList_t, isTup_i, isTup_l, isTup_t, isNone_n, isNone_i, isNone_l, isNone_t, Bool.not_true, Bool.not_false, Bool.true_and, Bool.and_true, Bool.false_or, Bool.or_false, List.length_map, List.length_cons, List.length_nil, decide_eq_true_eq, decide_eq_false_iff_not, Bool.and_eq_true, Bool.or_eq_true, Bool.and_eq_false_iff, Bool.or_eq_false_iff, Bool.not_eq_true', Bool.not_eq_false', Bool.not_eq_true, Bool.not_eq_false, bne_iff_ne, beq_iff_eq, ne_eq] at *; omega) | (simp; done) | (simp at *; omega))) ve_int) (ve_add (vn 0) ve_int) (by first | omega | assumption | (simp only [List.length_take, List.length_drop, List.length_append, parts_len, isInt_i, isInt_l, isInt_t, isBool_i, isBool_l, isBool_t, isList_i, isList_l, isList_t, isTup_i, isTup_l, isTup_t, isNone_n, isNone_i, isNone_l, isNone_t, Bool.not_true, Bool.not_false, Bool.true_and, Bool.and_true, Bool.false_or, Bool.or_false, List.length_map, List.length_cons, List.length_nil, decide_eq_true_eq, decide_eq_false_iff_not, Bool.and_eq_true, Bool.or_eq_true, Bool.and_eq_false_iff, Bool.or_eq_false_iff, Bool.not_eq_true', Bool.not_eq_false', Bool.not_eq_true, Bool.not_eq_false, bne_iff_ne, beq_iff_eq, ne_eq] at *; omega) | (simp; done) | (simp at *; omega)) B.b_range)) sc_l_all.nd ⟨stack3, s_period1, rfl, ?_⟩ (fun m1 period0 _ hx1 hw1 hw => ?_) (fun _ hw => ?_))
          · skip
            have hsl2 : stack3.length + 1 = stack2.length := by rw [hp0, List.length_append]; rfl
            refine ⟨fun cs h => ?_, by omega⟩
            have := hst cs (by rw [hp0]; exact List.mem_append_left _ h)
            exact ⟨this.1, by omega⟩
          · obtain ⟨stack4, s_period2, rfl, ⟨hst3, hsl3⟩⟩ := hw
            have hq0 : 0 < period0 := by omega
            refine vk_cons (vs_if (VW.tb (vw_and (vb_cmp (vc_eqI (ve_mod (vn 0) (vn 6) (by first | omega | assumption | (simp only [List.length_take, List.length_drop, List.length_append, parts_len, isInt_i, isInt_l, isInt_t, isBool_i, isBool_l, isBool_t, isList_i, isList_l, isList_t, isTup_i, isTup_l, isTup_t, isNone_n, isNone_i, isNone_l, isNone_t, Bool.not_true, Bool.not_false, Bool.true_and, Bool.and_true, Bool.false_or, Bool.or_false, List.length_map, List.length_cons, List.length_nil, decide_eq_true_eq, decide_eq_false_iff_not, Bool.and_eq_true, Bool.or_eq_true, Bool.and_eq_false_iff, Bool.or_eq_false_iff, Bool.not_eq_true', Bool.not_eq_false', Bool.not_eq_true, Bool.not_eq_false, bne_iff_ne, beq_iff_eq, ne_eq] at *; omega) | (simp; done) | (simp at *; omega))) ve_int)) (fun hq1 => (vw_and1 (vb_cmp (veqE (en := (eL eI)) (roomy hr) (geL geI) (vlcE [("day", 7)] eI eI (vi_rg (vi_rng3 (vixE (0 : Int) (vn 5).lsE ve_int (by first | omega | assumption | (simp only [List.length_take, List.length_drop, List.length_append, parts_len, isInt_i, isInt_l, isInt_t, isBool_i, isBool_l, isBool_t, isList_i, isList_l, isList_t, isTup_i, isTup_l, isTup_t, isNone_n, isNone_i, isNone_l, isNone_t, Bool.not_true, Bool.not_false, Bool.true_and, Bool.and_true, Bool.false_or, Bool.or_false, List.length_map, List.length_cons, List.length_nil, decide_eq_true_eq, decide_eq_false_iff_not, Bool.and_eq_true, Bool.or_eq_true, Bool.and_eq_false_iff, Bool.or_eq_false_iff, Bool.not_eq_true', Bool.not_eq_false', Bool.not_eq_true, Bool.not_eq_false, bne_iff_ne, beq_iff_eq, ne_eq] at *; omega) | (simp; done) | (simp at *; omega))) (vn 0) (vn 6) (rgc_up ⟨by omega, by omega⟩ ⟨by omega, by omega⟩ ⟨by omega, by omega⟩) B.b_range)).cc (no_cons (no_none rfl) no_nil) (fun _ _ _ _ _ => vg_name 7 sc_l_all.nd) (by simp) (by simp) (by rw [List.length_map, List.length_range]; have := rgN_le hq0 (i := free0.getD (Int.toNat 0) 0) (j := n0); omega) sc_l_all.nd (blkOk_by (show blkC N_l_all (defScope s_l_all) _ _ = true by decide +kernel)) (fun xa hxa =>  ⟨_, rfl, fun _ _ _ _ _ => ⟨(vts_one (vb_cmp (vninR hr geI (vn 7).v (vn 5).v))), fun hxp => (vn 7)⟩⟩)).vl.vE (vdispE (vae_nil _)).vl.vE)))))) (fun hc2 => ?_) (fun hc2 => ?_))
            · skip
              try simp only [List.length_take, List.length_drop, List.length_append, parts_len, isInt_i, isInt_l, isInt_t, isBool_i, isBool_l, isBool_t, isList_i, isList_l, isList_t, isTup_i, isTup_l, isTup_t, isNone_n, isNone_i, isNone_l, isNone_t, Bool.not_true, Bool.not_false, Bool.true_and, Bool.and_true, Bool.false_or, Bool.or_false, List.length_map, List.length_cons, List.length_nil, decide_eq_true_eq, decide_eq_false_iff_not, Bool.and_eq_true, Bool.or_eq_true, Bool.and_eq_false_iff, Bool.or_eq_false_iff, Bool.not_eq_true', Bool.not_eq_false', Bool.not_eq_true, Bool.not_eq_false, bne_iff_ne, beq_iff_eq, ne_eq] at hc2
              refine vk_cons (vs_appE 2 (eL (e2 eI eI)) (vcatE (vn 4).lsE (vdispE (vae_cons (vtup2 (ea := eI) (eb := eI) (vixE (0 : Int) (vn 5).lsE ve_int (by first | omega | assumption | (simp only [List.length_take, List.length_drop, List.length_append, parts_len, isInt_i, isInt_l, isInt_t, isBool_i, isBool_l, isBool_t, isList_i, isList_l, isList_t, isTup_i, isTup_l, isTup_t, isNone_n, isNone_i, isNone_l, isNone_t, Bool.not_true, Bool.not_false, Bool.true_and, Bool.and_true, Bool.false_or, Bool.or_false, List.length_map, List.length_cons, List.length_nil, decide_eq_true_eq, decide_eq_false_iff_not, Bool.and_eq_true, Bool.or_eq_true, Bool.and_eq_false_iff, Bool.or_eq_false_iff, Bool.not_eq_true', Bool.not_eq_false', Bool.not_eq_true, Bool.not_eq_false, bne_iff_ne, beq_iff_eq, ne_eq] at *; omega) | (simp; done) | (simp at *; omega))) (vn 6)) (vae_nil (e2 eI eI)))).vl (by first | omega | assumption | (simp only [List.length_take, List.length_drop, List.length_append, parts_len, isInt_i, isInt_l, isInt_t, isBool_i, isBool_l, isBool_t, isList_i, isList_l, isList_t, isTup_i, isTup_l, isTup_t, isNone_n, isNone_i, isNone_l, isNone_t, Bool.not_true, Bool.not_false, Bool.true_and, Bool.and_true, Bool.false_or, Bool.or_false, List.length_map, List.length_cons, List.length_nil, decide_eq_true_eq, decide_eq_false_iff_not, Bool.and_eq_true, Bool.or_eq_true, Bool.and_eq_false_iff, Bool.or_eq_false_iff, Bool.not_eq_true', Bool.not_eq_false', Bool.not_eq_true, Bool.not_eq_false, bne_iff_ne, beq_iff_eq, ne_eq] at *; omega) | (simp; done) | (simp at *; omega))).frzE ⟨_, rfl⟩ rfl (by first | omega | assumption | (simp only [List.length_take, List.length_drop, List.length_append, parts_len, isInt_i, isInt_l, isInt_t, isBool_i, isBool_l, isBool_t, isList_i, isList_l, isList_t, isTup_i, isTup_l, isTup_t, isNone_n, isNone_i, isNone_l, isNone_t, Bool.not_true, Bool.not_false, Bool.true_and, Bool.and_true, Bool.false_or, Bool.or_false, List.length_map, List.length_cons, List.length_nil, decide_eq_true_eq, decide_eq_false_iff_not, Bool.and_eq_true, Bool.or_eq_true, Bool.and_eq_false_iff, Bool.or_eq_false_iff, Bool.not_eq_true', Bool.not_eq_false', Bool.not_eq_true, Bool.not_eq_false, bne_iff_ne, beq_iff_eq, ne_eq] at *; omega) | (simp; done) | (simp at *; omega)) ?_)
              generalize h_stack5 : stack4 ++ [_] = stack5
              have hl_stack5 : stack5.length = stack4.length + 1 := by rw [← h_stack5, List.length_append]; rfl
              refine vk_nil ?_
              refine vk_nil ⟨stack5, some (.leaf (eI period0)), rfl, ?_⟩
              refine ⟨fun cs h => ?_, by omega⟩
              rw [← h_stack5] at h
              rcases List.mem_append.mp h with h | h
              · exact hst3 cs h
              · cases List.mem_singleton.mp h
                refine ⟨hPg.add (by omega) hd0.1.1 (by omega) ?_ fun k hk => ?_, by rw [List.length_append]; show _ + 1 ≤ _; omega⟩
                · rw [show ((n0.toNat : Nat) : Int) = n0 by omega]; exact Int.dvd_of_emod_eq_zero hc2.1
                · exact ((hfr _).mp (free_days hq0 hc2.2 k (by omega))).2
            · skip
              try simp only [List.length_take, List.length_drop, List.length_append, parts_len, isInt_i, isInt_l, isInt_t, isBool_i, isBool_l, isBool_t, isList_i, isList_l, isList_t, isTup_i, isTup_l, isTup_t, isNone_n, isNone_i, isNone_l, isNone_t, Bool.not_true, Bool.not_false, Bool.true_and, Bool.and_true, Bool.false_or, Bool.or_false, List.length_map, List.length_cons, List.length_nil, decide_eq_true_eq, decide_eq_false_iff_not, Bool.and_eq_true, Bool.or_eq_true, Bool.and_eq_false_iff, Bool.or_eq_false_iff, Bool.not_eq_true', Bool.not_eq_false', Bool.not_eq_true, Bool.not_eq_false, bne_iff_ne, beq_iff_eq, ne_eq] at hc2
              refine vk_nil ?_
              refine vk_nil ⟨stack4, some (.leaf (eI period0)), rfl, ?_⟩
              exact ⟨hst3, by omega⟩
          · obtain ⟨stack4, s_period2, rfl, ⟨hst3, hsl3⟩⟩ := hw
            refine vk_nil ?_
            refine vk_nil ⟨found2, stack4, some (.leaf (eI turn0)), some (.leaf ((eL (e2 eI eI)) classes0)), some (.leaf ((eL eI) free0)), s_period2, rfl, ?_⟩
            refine ⟨hf, by omega, fun cs h => ?_, by omega⟩
            have := hst3 cs h
            exact ⟨this.1, by omega⟩
    · obtain ⟨found2, stack2, s_turn1, s_classes1, s_free1, s_period1, rfl, ⟨hf, hfl, hst, hsl⟩⟩ := hw
      refine ⟨found2, stack2, s_turn1, s_classes1, s_free1, s_period1, rfl, ?_⟩
      exact ⟨hf, hfl⟩
  · rintro _ ⟨found1, stack1, s_turn0, s_classes0, s_free0, s_period0, rfl, ⟨hf, hfl⟩⟩
    refine vk_frz 1 rfl ?_
    refine vk_cons (vs_ret (vn 1) ?_)
    refine ⟨_, rfl, ?_⟩
    try dsimp only
    exact ⟨hf, hfl⟩
end
end My

namespace My
open PySem PySem.Spec PyProof.Rows L2 V3
section
variable {P : Program} {w : World} {K : Fg} {mg : Str → Option Value} {base : Heap} {f : Addr} {fd : FuncData}
def pre_l_lines (os : List OT) (P : OT → Prop) : Prop := ∃ (draws0 : List Int), os = [.leaf ((eL eI) draws0)] ∧ (draws0.length = 60) ∧ P = (someL (eL (e2 eI eI)) fun res => ∀ l ∈ res, GoodM l)
theorem ok_l_lines {k : Nat} (F : Fd K "_law_lines" s_l_lines f fd) (B : Bl mg) : FnOk P w K mg base CX0 (k + 1) f fd ["draws"] (SpN K pre_l_lines) := by
  refine fn_okN F sc_l_lines (fun ds o h => by obtain ⟨draws0, rfl, hpre, rfl⟩ := h; rfl) fun cdv A outer s H E hr ds o h => ?_
  obtain ⟨draws0, rfl, hpre, rfl⟩ := h
  refine vk_cons (vs_setG 1 eI (ve_add ve_int (ve_mod (vixE (0 : Int) (vn 0).lsE ve_int (by first | omega | assumption | (simp only [List.length_take, List.length_drop, List.length_append, parts_len, filter_true, List.length_range, isInt_i, isInt_l, isInt_t, isBool_i, isBool_l, isBool_t, isList_i, isList_l, isList_t, isTup_i, isTup_l, isTup_t, isNone_n, isNone_i, isNone_l, isNone_t, Bool.not_true, Bool.not_false, Bool.true_and, Bool.and_true, Bool.false_or, Bool.or_false, List.length_map, List.length_cons, List.length_nil, decide_eq_true_eq, decide_eq_false_iff_not, Bool.and_eq_true, Bool.or_eq_true, Bool.and_eq_false_iff, Bool.or_eq_false_iff, Bool.not_eq_true', Bool.not_eq_false', Bool.not_eq_true, Bool.not_eq_false, bne_iff_ne, beq_iff_eq, ne_eq] at *; omega) | (simp; done) | (simp at *; omega))) ve_int (by first | omega | assumption | (simp only [List.length_take, List.length_drop, List.length_append, parts_len, filter_true, List.length_range, isInt_i, isInt_l, isInt_t, isBool_i, isBool_l, isBool_t, isList_i, isList_l, isList_t, isTup_i, isTup_l, isTup_t, isNone_n, isNone_i, isNone_l, isNone_t, Bool.not_true, Bool.not_false, Bool.true_and, Bool.and_true, Bool.false_or, Bool.or_false, List.length_map, List.length_cons, List.length_nil, decide_eq_true_eq, decide_eq_false_iff_not, Bool.and_eq_true, Bool.or_eq_true, Bool.and_eq_false_iff, Bool.or_eq_false_iff, Bool.not_eq_true', Bool.not_eq_false', Bool.not_eq_true, Bool.not_eq_false, bne_iff_ne, beq_iff_eq, ne_eq] at *; omega) | (simp; done) | (simp at *; omega)))) sc_l_lines.nd fun many0 h_many0 => ?_)
  refine vk_cons (vs_setO 2 (e2 eI eI) (vdispE (vae_nil _)) sc_l_lines.nd fun chain0 h_chain0 => ?_)
  refine vk_cons (vs_setG 3 eI ve_int sc_l_lines.nd fun step0 h_step0 => ?_)
  refine vk_cons (vs_forR 4 (fun (m0 : Nat) Γ => ∃ (chain1 : List (Int × Int)) (step1 : Int) (s_k0 : Option PyData), Γ = [some (.leaf ((eL eI) draws0)), some (.leaf (eI many0)), some (.lst (lfs (chain1.map (e2 eI eI)))), some (.leaf (eI step1)), Option.map OT.leaf s_k0, none] ∧ (chain1 = chF m0 ∧ step1 = ((2 ^ m0 : Nat) : Int))) (fun _ => (vi_rng1 (ve_add ve_int (ve_mod (vixE (0 : Int) (vn 0).lsE ve_int (by first | omega | assumption | (simp only [List.length_take, List.length_drop, List.length_append, parts_len, filter_true, List.length_range, isInt_i, isInt_l, isInt_t, isBool_i, isBool_l, isBool_t, isList_i, isList_l, isList_t, isTup_i, isTup_l, isTup_t, isNone_n, isNone_i, isNone_l, isNone_t, Bool.not_true, Bool.not_false, Bool.true_and, Bool.and_true, Bool.false_or, Bool.or_false, List.length_map, List.length_cons, List.length_nil, decide_eq_true_eq, decide_eq_false_iff_not, Bool.and_eq_true, Bool.or_eq_true, Bool.and_eq_false_iff, Bool.or_eq_false_iff, Bool.not_eq_true', Bool.not_eq_false', Bool.not_eq_true, Bool.not_eq_false, bne_iff_ne, beq_iff_eq, ne_eq] at *; omega) | (simp; done) | (simp at *; omega))) ve_int (by first | omega | assumption | (simp only [List.length_take, List.length_drop, List.length_append, parts_len, filter_true, List.length_range, isInt_i, isInt_l, isInt_t, isBool_i, isBool_l, isBool_t, isList_i, isList_l, isList_t, isTup_i, isTup_l, isTup_t, isNone_n, isNone_i, isNone_l, isNone_t, Bool.not_true, Bool.not_false, Bool.true_and, Bool.and_true, Bool.false_or, Bool.or_false, List.length_map, List.length_cons, List.length_nil, decide_eq_true_eq, decide_eq_false_iff_not, Bool.and_eq_true, Bool.or_eq_true, Bool.and_eq_false_iff, Bool.or_eq_false_iff, Bool.not_eq_true', Bool.not_eq_false', Bool.not_eq_true, Bool.not_eq_false, bne_iff_ne, beq_iff_eq, ne_eq] at *; omega) | (simp; done) | (simp at *; omega)))) (by first | omega | assumption | (simp only [List.length_take, List.length_drop, List.length_append, parts_len, filter_true, List.length_range, isInt_i, isInt_l, isInt_t, isBool_i, isBool_l, isBool_t, isList_i, isList_l, isList_t, isTup_i, isTup_l, isTup_t, isNone_n, isNone_i, isNone_l, isNone_t, Bool.not_true, Bool.not_false, Bool.true_and, Bool.and_true, Bool.false_or, Bool.or_false, List.length_map, List.length_cons, List.length_nil, decide_eq_true_eq, decide_eq_false_iff_not, Bool.and_eq_true, Bool.or_eq_true, Bool.and_eq_false_iff, Bool.or_eq_false_iff, Bool.not_eq_true', Bool.not_eq_false', Bool.not_eq_true, Bool.not_eq_false, bne_iff_ne, beq_iff_eq, ne_eq] at *; omega) | (simp; done) | (simp at *; omega)) B.b_range)) sc_l_lines.nd ⟨chain0, step0, none, rfl, ?_⟩ (fun m0 k0 _ hx0 hw0 hw => ?_) (fun _ hw => ?_))
  · skip
    subst h_chain0 h_step0
    exact ⟨rfl, rfl⟩
  · obtain ⟨chain1, step1, s_k0, rfl, ⟨hch, hst⟩⟩ := hw
    have hcl := chF_len m0
    rw [← hch] at hcl
    refine vk_cons (vs_appE 2 (e2 eI eI) (vtup2 (ea := eI) (eb := eI) (ve_sub (vn 3) ve_int) (ve_mulS ve_int (vn 3) (by first | omega | assumption | (simp only [List.length_take, List.length_drop, List.length_append, parts_len, filter_true, List.length_range, isInt_i, isInt_l, isInt_t, isBool_i, isBool_l, isBool_t, isList_i, isList_l, isList_t, isTup_i, isTup_l, isTup_t, isNone_n, isNone_i, isNone_l, isNone_t, Bool.not_true, Bool.not_false, Bool.true_and, Bool.and_true, Bool.false_or, Bool.or_false, List.length_map, List.length_cons, List.length_nil, decide_eq_true_eq, decide_eq_false_iff_not, Bool.and_eq_true, Bool.or_eq_true, Bool.and_eq_false_iff, Bool.or_eq_false_iff, Bool.not_eq_true', Bool.not_eq_false', Bool.not_eq_true, Bool.not_eq_false, bne_iff_ne, beq_iff_eq, ne_eq] at *; omega) | (simp; done) | (simp at *; omega)))) ⟨_, rfl⟩ rfl (by first | omega | assumption | (simp only [List.length_take, List.length_drop, List.length_append, parts_len, filter_true, List.length_range, isInt_i, isInt_l, isInt_t, isBool_i, isBool_l, isBool_t, isList_i, isList_l, isList_t, isTup_i, isTup_l, isTup_t, isNone_n, isNone_i, isNone_l, isNone_t, Bool.not_true, Bool.not_false, Bool.true_and, Bool.and_true, Bool.false_or, Bool.or_false, List.length_map, List.length_cons, List.length_nil, decide_eq_true_eq, decide_eq_false_iff_not, Bool.and_eq_true, Bool.or_eq_true, Bool.and_eq_false_iff, Bool.or_eq_false_iff, Bool.not_eq_true', Bool.not_eq_false', Bool.not_eq_true, Bool.not_eq_false, bne_iff_ne, beq_iff_eq, ne_eq] at *; omega) | (simp; done) | (simp at *; omega)) ?_)
    generalize h_chain2 : chain1 ++ [_] = chain2
    have hl_chain2 : chain2.length = chain1.length + 1 := by rw [← h_chain2, List.length_append]; rfl
    refine vk_cons (vs_setG 3 eI (ve_mulS ve_int (vn 3) (by first | omega | assumption | (simp only [List.length_take, List.length_drop, List.length_append, parts_len, filter_true, List.length_range, isInt_i, isInt_l, isInt_t, isBool_i, isBool_l, isBool_t, isList_i, isList_l, isList_t, isTup_i, isTup_l, isTup_t, isNone_n, isNone_i, isNone_l, isNone_t, Bool.not_true, Bool.not_false, Bool.true_and, Bool.and_true, Bool.false_or, Bool.or_false, List.length_map, List.length_cons, List.length_nil, decide_eq_true_eq, decide_eq_false_iff_not, Bool.and_eq_true, Bool.or_eq_true, Bool.and_eq_false_iff, Bool.or_eq_false_iff, Bool.not_eq_true', Bool.not_eq_false', Bool.not_eq_true, Bool.not_eq_false, bne_iff_ne, beq_iff_eq, ne_eq] at *; omega) | (simp; done) | (simp at *; omega))) sc_l_lines.nd fun step2 h_step2 => ?_)
    refine vk_nil ⟨chain2, step2, some (eI k0), rfl, ?_⟩
    refine ⟨by rw [chF_succ, ← hch, ← h_chain2, hst], ?_⟩
    rw [h_step2, hst, Nat.pow_succ]
    omega
  · obtain ⟨chain1, step1, s_k0, rfl, ⟨hch, hst⟩⟩ := hw
    refine vk_cons (vs_setLcE 5 [("k", 4)] eI (e2 eI eI) (vi_rg (vi_rng1 (vn 1) (by first | omega | assumption | (simp only [List.length_take, List.length_drop, List.length_append, parts_len, filter_true, List.length_range, isInt_i, isInt_l, isInt_t, isBool_i, isBool_l, isBool_t, isList_i, isList_l, isList_t, isTup_i, isTup_l, isTup_t, isNone_n, isNone_i, isNone_l, isNone_t, Bool.not_true, Bool.not_false, Bool.true_and, Bool.and_true, Bool.false_or, Bool.or_false, List.length_map, List.length_cons, List.length_nil, decide_eq_true_eq, decide_eq_false_iff_not, Bool.and_eq_true, Bool.or_eq_true, Bool.and_eq_false_iff, Bool.or_eq_false_iff, Bool.not_eq_true', Bool.not_eq_false', Bool.not_eq_true, Bool.not_eq_false, bne_iff_ne, beq_iff_eq, ne_eq] at *; omega) | (simp; done) | (simp at *; omega)) B.b_range)).cc (no_cons (no_opt rfl) no_nil) (fun _ _ _ _ _ => vg_name 4 sc_l_lines.nd) (by simp) (by simp) (by first | omega | assumption | (simp only [List.length_take, List.length_drop, List.length_append, parts_len, filter_true, List.length_range, isInt_i, isInt_l, isInt_t, isBool_i, isBool_l, isBool_t, isList_i, isList_l, isList_t, isTup_i, isTup_l, isTup_t, isNone_n, isNone_i, isNone_l, isNone_t, Bool.not_true, Bool.not_false, Bool.true_and, Bool.and_true, Bool.false_or, Bool.or_false, List.length_map, List.length_cons, List.length_nil, decide_eq_true_eq, decide_eq_false_iff_not, Bool.and_eq_true, Bool.or_eq_true, Bool.and_eq_false_iff, Bool.or_eq_false_iff, Bool.not_eq_true', Bool.not_eq_false', Bool.not_eq_true, Bool.not_eq_false, bne_iff_ne, beq_iff_eq, ne_eq] at *; omega) | (simp; done) | (simp at *; omega)) sc_l_lines.nd (blkOk_by (show blkC N_l_lines (defScope s_l_lines) _ _ = true by decide +kernel)) (fun xa hxa =>  ⟨_, rfl, fun _ _ _ _ _ => ⟨vts_nil, fun hxp => (vtup2 (ea := eI) (eb := eI) (vn 4) (vn 1))⟩⟩) fun alike0 h_alike0 => ?_)
    refine vk_frz 5 rfl ?_
    have eal : alike0 = aliF many0.toNat := by
      rw [h_alike0, filter_true, List.map_map]
      refine List.map_congr_left fun k _ => ?_
      show ((0 + (k : Int) * 1), many0) = ((k : Int), ((many0.toNat : Nat) : Int))
      rw [show ((many0.toNat : Nat) : Int) = many0 by omega]
      simp
    have hcl := chF_len (1 + draws0.getD (Int.toNat 6) 0 % 19).toNat
    rw [← hch] at hcl
    refine vk_cons (vs_ret (vdispE (vae_cons (vn 5) (vae_cons (vcatE (vo 2) (vdispE (vae_cons (vtup2 (ea := eI) (eb := eI) (ve_sub (vn 3) ve_int) (vn 3)) (vae_nil (e2 eI eI)))).vl (by first | omega | assumption | (simp only [List.length_take, List.length_drop, List.length_append, parts_len, filter_true, List.length_range, isInt_i, isInt_l, isInt_t, isBool_i, isBool_l, isBool_t, isList_i, isList_l, isList_t, isTup_i, isTup_l, isTup_t, isNone_n, isNone_i, isNone_l, isNone_t, Bool.not_true, Bool.not_false, Bool.true_and, Bool.and_true, Bool.false_or, Bool.or_false, List.length_map, List.length_cons, List.length_nil, decide_eq_true_eq, decide_eq_false_iff_not, Bool.and_eq_true, Bool.or_eq_true, Bool.and_eq_false_iff, Bool.or_eq_false_iff, Bool.not_eq_true', Bool.not_eq_false', Bool.not_eq_true, Bool.not_eq_false, bne_iff_ne, beq_iff_eq, ne_eq] at *; omega) | (simp; done) | (simp at *; omega))).frzE (vae_cons (vcatE (vdispE (vae_cons (vtup2 (ea := eI) (eb := eI) ve_int ve_int) (vae_nil (e2 eI eI)))).vl (vlcE [("k", 4)] eI (e2 eI eI) (vi_rg (vi_rng1 (ve_sub (vn 1) ve_int) (by first | omega | assumption | (simp only [List.length_take, List.length_drop, List.length_append, parts_len, filter_true, List.length_range, isInt_i, isInt_l, isInt_t, isBool_i, isBool_l, isBool_t, isList_i, isList_l, isList_t, isTup_i, isTup_l, isTup_t, isNone_n, isNone_i, isNone_l, isNone_t, Bool.not_true, Bool.not_false, Bool.true_and, Bool.and_true, Bool.false_or, Bool.or_false, List.length_map, List.length_cons, List.length_nil, decide_eq_true_eq, decide_eq_false_iff_not, Bool.and_eq_true, Bool.or_eq_true, Bool.and_eq_false_iff, Bool.or_eq_false_iff, Bool.not_eq_true', Bool.not_eq_false', Bool.not_eq_true, Bool.not_eq_false, bne_iff_ne, beq_iff_eq, ne_eq] at *; omega) | (simp; done) | (simp at *; omega)) B.b_range)).cc (no_cons (no_opt rfl) no_nil) (fun _ _ _ _ _ => vg_name 4 sc_l_lines.nd) (by simp) (by simp) (by first | omega | assumption | (simp only [List.length_take, List.length_drop, List.length_append, parts_len, filter_true, List.length_range, isInt_i, isInt_l, isInt_t, isBool_i, isBool_l, isBool_t, isList_i, isList_l, isList_t, isTup_i, isTup_l, isTup_t, isNone_n, isNone_i, isNone_l, isNone_t, Bool.not_true, Bool.not_false, Bool.true_and, Bool.and_true, Bool.false_or, Bool.or_false, List.length_map, List.length_cons, List.length_nil, decide_eq_true_eq, decide_eq_false_iff_not, Bool.and_eq_true, Bool.or_eq_true, Bool.and_eq_false_iff, Bool.or_eq_false_iff, Bool.not_eq_true', Bool.not_eq_false', Bool.not_eq_true, Bool.not_eq_false, bne_iff_ne, beq_iff_eq, ne_eq] at *; omega) | (simp; done) | (simp at *; omega)) sc_l_lines.nd (blkOk_by (show blkC N_l_lines (defScope s_l_lines) _ _ = true by decide +kernel)) (fun xa hxa =>  ⟨_, rfl, fun _ _ _ _ _ => ⟨vts_nil, fun hxp => (vtup2 (ea := eI) (eb := eI) (ve_add (ve_mulS ve_int (vn 4) (by first | omega | assumption | (simp only [List.length_take, List.length_drop, List.length_append, parts_len, filter_true, List.length_range, isInt_i, isInt_l, isInt_t, isBool_i, isBool_l, isBool_t, isList_i, isList_l, isList_t, isTup_i, isTup_l, isTup_t, isNone_n, isNone_i, isNone_l, isNone_t, Bool.not_true, Bool.not_false, Bool.true_and, Bool.and_true, Bool.false_or, Bool.or_false, List.length_map, List.length_cons, List.length_nil, decide_eq_true_eq, decide_eq_false_iff_not, Bool.and_eq_true, Bool.or_eq_true, Bool.and_eq_false_iff, Bool.or_eq_false_iff, Bool.not_eq_true', Bool.not_eq_false', Bool.not_eq_true, Bool.not_eq_false, bne_iff_ne, beq_iff_eq, ne_eq] at *; omega) | (simp; done) | (simp at *; omega))) ve_int) (ve_sub (ve_mulS ve_int (vn 1) (by first | omega | assumption | (simp only [List.length_take, List.length_drop, List.length_append, parts_len, filter_true, List.length_range, isInt_i, isInt_l, isInt_t, isBool_i, isBool_l, isBool_t, isList_i, isList_l, isList_t, isTup_i, isTup_l, isTup_t, isNone_n, isNone_i, isNone_l, isNone_t, Bool.not_true, Bool.not_false, Bool.true_and, Bool.and_true, Bool.false_or, Bool.or_false, List.length_map, List.length_cons, List.length_nil, decide_eq_true_eq, decide_eq_false_iff_not, Bool.and_eq_true, Bool.or_eq_true, Bool.and_eq_false_iff, Bool.or_eq_false_iff, Bool.not_eq_true', Bool.not_eq_false', Bool.not_eq_true, Bool.not_eq_false, bne_iff_ne, beq_iff_eq, ne_eq] at *; omega) | (simp; done) | (simp at *; omega))) ve_int))⟩⟩)).vl (by first | omega | assumption | (simp only [List.length_take, List.length_drop, List.length_append, parts_len, filter_true, List.length_range, isInt_i, isInt_l, isInt_t, isBool_i, isBool_l, isBool_t, isList_i, isList_l, isList_t, isTup_i, isTup_l, isTup_t, isNone_n, isNone_i, isNone_l, isNone_t, Bool.not_true, Bool.not_false, Bool.true_and, Bool.and_true, Bool.false_or, Bool.or_false, List.length_map, List.length_cons, List.length_nil, decide_eq_true_eq, decide_eq_false_iff_not, Bool.and_eq_true, Bool.or_eq_true, Bool.and_eq_false_iff, Bool.or_eq_false_iff, Bool.not_eq_true', Bool.not_eq_false', Bool.not_eq_true, Bool.not_eq_false, bne_iff_ne, beq_iff_eq, ne_eq] at *; omega) | (simp; done) | (simp at *; omega))).frzE (vae_nil (eL (e2 eI eI))))))) ?_)
    refine ⟨_, rfl, ?_⟩
    try dsimp only
    intro l hl
    simp only [List.mem_cons, List.not_mem_nil, or_false] at hl
    rcases hl with h | h | h
    · rw [h, eal]; exact ali_m (by omega) (by omega)
    · rw [h, hst, hch]; exact ch_m (by omega) (by omega)
    · have e : l = odF (many0 - 1).toNat := by
        rw [h, odF, filter_true, List.map_map]
        congr 1
        refine List.map_congr_left fun k _ => ?_
        show (2 * (0 + (k : Int) * 1) + 1, 2 * many0 - 2) = (2 * (k : Int) + 1, 2 * (((many0 - 1).toNat : Nat) : Int))
        rw [show 2 * (((many0 - 1).toNat : Nat) : Int) = 2 * many0 - 2 by omega]
        simp
      rw [e]; exact od_m (by omega) (by omega)
end
end My

namespace My
open PySem PySem.Spec PyProof.Rows L2 V3
section
variable {P : Program} {w : World} {K : Fg} {mg : Str → Option Value} {base : Heap} {f : Addr} {fd : FuncData}
def pre_law (os : List OT) (P : OT → Prop) : Prop := ∃ (script0 : List Int), os = [.scr script0] ∧ (script0.length ≤ 63) ∧ P = (someD eB fun res => res = true)
theorem ok_law {k : Nat} (F : Fd K "law" s_law f fd) (B : Bl mg) (C_l_all : Cal P w K mg base k "_law_all" 1 (SpN K pre_l_all)) (C_l_draws : Cal P w K mg base k "_law_draws" 2 (SpN K pre_l_draws)) (C_l_fewer : Cal P w K mg base k "_law_fewer" 1 (SpD K pre_l_fewer)) (C_l_great : Cal P w K mg base k "_law_great" 1 (SpD K pre_l_great)) (C_l_least_factor : Cal P w K mg base k "_law_least_factor" 1 (SpD K pre_l_least_factor)) (C_l_lines : Cal P w K mg base k "_law_lines" 1 (SpN K pre_l_lines)) (C_l_some_parting : Cal P w K mg base k "_law_some_parting" 2 (SpN K pre_l_some_parting)) (C_l_split : Cal P w K mg base k "_law_split" 3 (SpD K pre_l_split)) (C_l_told : Cal P w K mg base k "_law_told" 1 (SpD K pre_l_told)) (C_p_is_parting : Cal P w K mg base k "is_parting" 1 (SpD K pre_p_is_parting)) (C_p_parting_paper : Cal P w K mg base k "parting_paper" 1 (SpD K pre_p_parting_paper)) : FnOk P w K mg base CX0 (k + 1) f fd ["script"] (SpN K pre_law) := by
  refine fn_okN F sc_law (fun ds o h => by obtain ⟨script0, rfl, hpre, rfl⟩ := h; rfl) fun cdv A outer s H E hr ds o h => ?_
  obtain ⟨script0, rfl, hpre, rfl⟩ := h
  refine vk_cons (vs_setN 1 (ve_callN C_l_draws hr (vms_cons (vmv 0) (vms_cons ve_int vms_nil)) ⟨_, _, rfl, ⟨hpre, by decide, by decide⟩, rfl⟩).frzN sc_law.nd fun draws0 h_draws0 => ?_)
  have h60 : draws0.length = 60 := h_draws0
  have hdn : draws0 ≠ [] := fun e => by rw [e] at h60; exact absurd h60 (by decide)
  refine vk_cons (vs_setN 2 (ve_callN C_l_some_parting hr (vms_cons (vn 1) (vms_cons ve_int vms_nil)) ⟨_, _, rfl, ⟨hdn, by decide⟩, rfl⟩) sc_law.nd fun classes0 h_classes0 => ?_)
  obtain ⟨hp, hcz, hb, hs, hB⟩ := h_classes0
  have hcl : 0 < classes0.length := List.length_pos_iff.mpr hp.ne
  refine vk_cons (vs_setG 3 (eL (e2 eI eI)) (ve_call C_l_split hr (va_cons (vn 2) (va_cons (ve_mod (vixE (0 : Int) (vn 1).lsE ve_int (by first | omega | assumption | (simp only [List.length_take, List.length_drop, List.length_append, parts_len, filter_true, List.length_range, isInt_i, isInt_l, isInt_t, isBool_i, isBool_l, isBool_t, isList_i, isList_l, isList_t, isTup_i, isTup_l, isTup_t, isNone_n, isNone_i, isNone_l, isNone_t, Bool.not_true, Bool.not_false, Bool.true_and, Bool.and_true, Bool.false_or, Bool.or_false, List.length_map, List.length_cons, List.length_nil, decide_eq_true_eq, decide_eq_false_iff_not, Bool.and_eq_true, Bool.or_eq_true, Bool.and_eq_false_iff, Bool.or_eq_false_iff, Bool.not_eq_true', Bool.not_eq_false', Bool.not_eq_true, Bool.not_eq_false, bne_iff_ne, beq_iff_eq, ne_eq] at *; omega) | (simp; done) | (simp at *; omega))) (vlenE (vn 2).lsE B.b_len) (by first | omega | assumption | (simp only [List.length_take, List.length_drop, List.length_append, parts_len, filter_true, List.length_range, isInt_i, isInt_l, isInt_t, isBool_i, isBool_l, isBool_t, isList_i, isList_l, isList_t, isTup_i, isTup_l, isTup_t, isNone_n, isNone_i, isNone_l, isNone_t, Bool.not_true, Bool.not_false, Bool.true_and, Bool.and_true, Bool.false_or, Bool.or_false, List.length_map, List.length_cons, List.length_nil, decide_eq_true_eq, decide_eq_false_iff_not, Bool.and_eq_true, Bool.or_eq_true, Bool.and_eq_false_iff, Bool.or_eq_false_iff, Bool.not_eq_true', Bool.not_eq_false', Bool.not_eq_true, Bool.not_eq_false, bne_iff_ne, beq_iff_eq, ne_eq] at *; omega) | (simp; done) | (simp at *; omega))) (va_cons (ve_add ve_int (ve_mod (vixE (0 : Int) (vn 1).lsE ve_int (by first | omega | assumption | (simp only [List.length_take, List.length_drop, List.length_append, parts_len, filter_true, List.length_range, isInt_i, isInt_l, isInt_t, isBool_i, isBool_l, isBool_t, isList_i, isList_l, isList_t, isTup_i, isTup_l, isTup_t, isNone_n, isNone_i, isNone_l, isNone_t, Bool.not_true, Bool.not_false, Bool.true_and, Bool.and_true, Bool.false_or, Bool.or_false, List.length_map, List.length_cons, List.length_nil, decide_eq_true_eq, decide_eq_false_iff_not, Bool.and_eq_true, Bool.or_eq_true, Bool.and_eq_false_iff, Bool.or_eq_false_iff, Bool.not_eq_true', Bool.not_eq_false', Bool.not_eq_true, Bool.not_eq_false, bne_iff_ne, beq_iff_eq, ne_eq] at *; omega) | (simp; done) | (simp at *; omega))) ve_int (by first | omega | assumption | (simp only [List.length_take, List.length_drop, List.length_append, parts_len, filter_true, List.length_range, isInt_i, isInt_l, isInt_t, isBool_i, isBool_l, isBool_t, isList_i, isList_l, isList_t, isTup_i, isTup_l, isTup_t, isNone_n, isNone_i, isNone_l, isNone_t, Bool.not_true, Bool.not_false, Bool.true_and, Bool.and_true, Bool.false_or, Bool.or_false, List.length_map, List.length_cons, List.length_nil, decide_eq_true_eq, decide_eq_false_iff_not, Bool.and_eq_true, Bool.or_eq_true, Bool.and_eq_false_iff, Bool.or_eq_false_iff, Bool.not_eq_true', Bool.not_eq_false', Bool.not_eq_true, Bool.not_eq_false, bne_iff_ne, beq_iff_eq, ne_eq] at *; omega) | (simp; done) | (simp at *; omega)))) va_nil))) ⟨_, _, _, rfl, ⟨(ixmod _ _ hcl).1, (ixmod _ _ hcl).2, by omega, by omega, by omega⟩, rfl⟩).frzE sc_law.nd fun more0 h_more0 => ?_)
  have hix := ixmod classes0.length (draws0.getD (Int.toNat 1) 0) hcl
  have hmp : Part more0 := by rw [h_more0]; exact hp.split hix.2 (by omega)
  have hms : Srt more0 := by rw [h_more0]; exact hp.splitSrt hix.2 (by omega)
  have hmB : Big more0 := by rw [h_more0]; exact hB.split hp hix.2 (by omega)
  have hml : more0.length ≤ 200 := by
    have := split_len (cs := classes0) (t := 2 + draws0.getD (Int.toNat 2) 0 % 5) hix.2
    rw [← h_more0] at this
    omega
  have hmb : ∀ p ∈ more0, p.2 ≤ 10000000 := by
    intro p hm
    rw [h_more0] at hm
    have h1 := split_le hix.2 hb (fun p hm => by have := (hp.ok p hm).1; omega) (by omega) p hm
    have h2 := Int.mul_le_mul_of_nonneg_right (show 2 + draws0.getD (Int.toNat 2) 0 % 5 ≤ 1000 by omega) (show (0 : Int) ≤ 1000 by decide)
    omega
  refine vk_cons (vs_if (VW.tb (vw_or (vb_not (vb_val (ve_call C_l_told hr (va_cons (vn 2) va_nil) ⟨_, rfl, ⟨hp, hs, hB, by omega, fun p hm => by have := hb p hm; omega⟩, rfl⟩))) (fun hq1 => (vw_or1 (vb_not (vb_val (ve_call C_l_told hr (va_cons (vn 3) va_nil) ⟨_, rfl, ⟨hmp, hms, hmB, by omega, hmb⟩, rfl⟩))))))) (fun hc0 => ?_) (fun hc0 => ?_))
  · skip
    try simp only [List.length_take, List.length_drop, List.length_append, parts_len, filter_true, List.length_range, isInt_i, isInt_l, isInt_t, isBool_i, isBool_l, isBool_t, isList_i, isList_l, isList_t, isTup_i, isTup_l, isTup_t, isNone_n, isNone_i, isNone_l, isNone_t, Bool.not_true, Bool.not_false, Bool.true_and, Bool.and_true, Bool.false_or, Bool.or_false, List.length_map, List.length_cons, List.length_nil, decide_eq_true_eq, decide_eq_false_iff_not, Bool.and_eq_true, Bool.or_eq_true, Bool.and_eq_false_iff, Bool.or_eq_false_iff, Bool.not_eq_true', Bool.not_eq_false', Bool.not_eq_true, Bool.not_eq_false, bne_iff_ne, beq_iff_eq, ne_eq] at hc0
    refine vk_cons (vs_ret ve_bl ?_)
    refine ⟨_, rfl, ?_⟩
    try dsimp only
    simp_all
  · skip
    try simp only [List.length_take, List.length_drop, List.length_append, parts_len, filter_true, List.length_range, isInt_i, isInt_l, isInt_t, isBool_i, isBool_l, isBool_t, isList_i, isList_l, isList_t, isTup_i, isTup_l, isTup_t, isNone_n, isNone_i, isNone_l, isNone_t, Bool.not_true, Bool.not_false, Bool.true_and, Bool.and_true, Bool.false_or, Bool.or_false, List.length_map, List.length_cons, List.length_nil, decide_eq_true_eq, decide_eq_false_iff_not, Bool.and_eq_true, Bool.or_eq_true, Bool.and_eq_false_iff, Bool.or_eq_false_iff, Bool.not_eq_true', Bool.not_eq_false', Bool.not_eq_true, Bool.not_eq_false, bne_iff_ne, beq_iff_eq, ne_eq] at hc0
    refine vk_nil ?_
    refine vk_cons (vs_forN (en := (eL (e2 eI eI))) 4 (fun (m0 : Nat) Γ => ∃ (s_line0 : Option OT) (s_kept0 : Option OT), Γ = [none, some (.leaf ((eL eI) draws0)), some (.leaf ((eL (e2 eI eI)) classes0)), some (.leaf ((eL (e2 eI eI)) more0)), s_line0, s_kept0, none, none, none, none, none, none] ∧ (True)) (fun _ => (vi_list (vdispE (vae_cons (vn 2) (vae_cons (vn 3) (vae_nil (eL (e2 eI eI)))))).frzE)) sc_law.nd ⟨none, none, rfl, ?_⟩ (fun m0 line0 _ hx0 hw => ?_) (fun _ hw => ?_))
    · skip
      trivial
    · obtain ⟨s_line0, s_kept0, rfl, _⟩ := hw
      have hmem : line0 = classes0 ∨ line0 = more0 := by
        have := List.mem_of_getElem? hx0
        simpa using this
      have hP : Part line0 := by rcases hmem with e | e <;> rw [e] <;> assumption
      have hPs : Srt line0 := by rcases hmem with e | e <;> rw [e] <;> assumption
      have hPB : Big line0 := by rcases hmem with e | e <;> rw [e] <;> assumption
      have hPl : line0.length ≤ 200 := by rcases hmem with e | e <;> rw [e] <;> omega
      have hPb : ∀ p ∈ line0, p.2 ≤ 10000000 := by
        rcases hmem with e | e <;> rw [e]
        · exact fun p hm => by have := hb p hm; omega
        · exact hmb
      refine vk_cons (vs_setG 5 (eL (e2 eI eI)) (ve_call C_l_fewer hr (va_cons (vn 4) va_nil) ⟨_, rfl, ⟨hP.ne, fun p hm => (hP.ok p hm).1, hPb, by omega⟩, rfl⟩) sc_law.nd fun kept0 h_kept0 => ?_)
      refine vk_cons (vs_if (VW.tb (vw_and (vb_cmp (vc_gt (vlenE (vn 4).lsE B.b_len) ve_int)) (fun hq2 => (vw_and1 (vb_cmp (vc_lt (vlenE (vn 5).lsE B.b_len) (vlenE (vn 4).lsE B.b_len))))))) (fun hc1 => ?_) (fun hc1 => ?_))
      · skip
        try simp only [List.length_take, List.length_drop, List.length_append, parts_len, filter_true, List.length_range, isInt_i, isInt_l, isInt_t, isBool_i, isBool_l, isBool_t, isList_i, isList_l, isList_t, isTup_i, isTup_l, isTup_t, isNone_n, isNone_i, isNone_l, isNone_t, Bool.not_true, Bool.not_false, Bool.true_and, Bool.and_true, Bool.false_or, Bool.or_false, List.length_map, List.length_cons, List.length_nil, decide_eq_true_eq, decide_eq_false_iff_not, Bool.and_eq_true, Bool.or_eq_true, Bool.and_eq_false_iff, Bool.or_eq_false_iff, Bool.not_eq_true', Bool.not_eq_false', Bool.not_eq_true, Bool.not_eq_false, bne_iff_ne, beq_iff_eq, ne_eq] at hc1
        have hM2 : 2 ≤ maxP line0 := by
          by_cases e : 2 ≤ maxP line0
          · exact e
          · have := hP.one_of e
            omega
        obtain ⟨hK1, hK2, _⟩ := few_facts hP hPs hM2
        rw [← h_kept0] at hK1 hK2
        have hKl := hK1.length_le
        have hKs : kept0.length < line0.length → SubP kept0 := fun h => by
          obtain ⟨n, h1, h2⟩ := sub_cut hK1 h
          exact (hP.sub h1 h2).1
        refine vk_cons (vs_if (VW.tb (vw_or (vb_cmp (vc_notB (ve_call C_p_is_parting hr (va_cons (ve_listOf (vn 5).lsE B.b_list).frzE va_nil) ⟨_, rfl, ⟨hK2, fun p hm => hP.ok p (hK1.mem hm), hPs.sublist hK1, hP.apart.sublist hK1, by omega, fun p hm => by have := hPb p (hK1.mem hm); omega⟩, rfl⟩) ve_bl)) (fun hq4 => (vw_or1 (VW.tb (vw_and (vb_cmp (vc_le (ve_maxL (m := maxP kept0) rfl (vlcE [("offset", 10), ("period", 11)] (e2 eI eI) eI (vi_list (vn 5)).cc (no_cons (no_none rfl) (no_cons (no_none rfl) no_nil)) (fun _ _ _ _ _ => vg_tup rfl sc_law.nd (na_cons 10 (na_cons 11 na_nil))) (by simp) (by simp) (by first | omega | assumption | (simp only [List.length_take, List.length_drop, List.length_append, parts_len, filter_true, List.length_range, isInt_i, isInt_l, isInt_t, isBool_i, isBool_l, isBool_t, isList_i, isList_l, isList_t, isTup_i, isTup_l, isTup_t, isNone_n, isNone_i, isNone_l, isNone_t, Bool.not_true, Bool.not_false, Bool.true_and, Bool.and_true, Bool.false_or, Bool.or_false, List.length_map, List.length_cons, List.length_nil, decide_eq_true_eq, decide_eq_false_iff_not, Bool.and_eq_true, Bool.or_eq_true, Bool.and_eq_false_iff, Bool.or_eq_false_iff, Bool.not_eq_true', Bool.not_eq_false', Bool.not_eq_true, Bool.not_eq_false, bne_iff_ne, beq_iff_eq, ne_eq] at *; omega) | (simp; done) | (simp at *; omega)) sc_law.nd (blkOk_by (show blkC N_law (defScope s_law) _ _ = true by decide +kernel)) (fun xa hxa =>  ⟨_, rfl, fun _ _ _ _ _ => ⟨vts_nil, fun hxp => (vn 11)⟩⟩)).vl.vE (by rw [filter_true, List.length_map]; exact List.length_pos_iff.mpr hK2) (by rw [filter_true]; obtain ⟨q, h1, h2⟩ := maxP_mem hK2 fun p hm => (hP.ok p (hK1.mem hm)).1; exact List.mem_map.mpr ⟨q, h1, h2⟩) (by rw [filter_true]; exact fun y hy => max_ge hy) B.b_max) ve_int)) (fun hq3 => (vw_and1 (vb_cmp (vc_eqD (roomy hr) (ve_call C_p_parting_paper hr (va_cons (ve_listOf (vn 5).lsE B.b_list).frzE va_nil) ⟨_, rfl, ⟨hKs (by omega), by omega, fun p hm => by have := hPb p (hK1.mem hm); omega⟩, rfl⟩).v (tup1 ve_str).v (sh_left _) sh_part)))))))))) (fun hc2 => ?_) (fun hc2 => ?_))
        · skip
          try simp only [List.length_take, List.length_drop, List.length_append, parts_len, filter_true, List.length_range, isInt_i, isInt_l, isInt_t, isBool_i, isBool_l, isBool_t, isList_i, isList_l, isList_t, isTup_i, isTup_l, isTup_t, isNone_n, isNone_i, isNone_l, isNone_t, Bool.not_true, Bool.not_false, Bool.true_and, Bool.and_true, Bool.false_or, Bool.or_false, List.length_map, List.length_cons, List.length_nil, decide_eq_true_eq, decide_eq_false_iff_not, Bool.and_eq_true, Bool.or_eq_true, Bool.and_eq_false_iff, Bool.or_eq_false_iff, Bool.not_eq_true', Bool.not_eq_false', Bool.not_eq_true, Bool.not_eq_false, bne_iff_ne, beq_iff_eq, ne_eq] at hc2
          refine vk_cons (vs_ret ve_bl ?_)
          refine ⟨_, rfl, ?_⟩
          try dsimp only
          have hfk : fillB kept0 = false := decide_eq_false (hKs (by omega)).notAll
          simp [hfk, eqv_lp] at hc2
        · skip
          try simp only [List.length_take, List.length_drop, List.length_append, parts_len, filter_true, List.length_range, isInt_i, isInt_l, isInt_t, isBool_i, isBool_l, isBool_t, isList_i, isList_l, isList_t, isTup_i, isTup_l, isTup_t, isNone_n, isNone_i, isNone_l, isNone_t, Bool.not_true, Bool.not_false, Bool.true_and, Bool.and_true, Bool.false_or, Bool.or_false, List.length_map, List.length_cons, List.length_nil, decide_eq_true_eq, decide_eq_false_iff_not, Bool.and_eq_true, Bool.or_eq_true, Bool.and_eq_false_iff, Bool.or_eq_false_iff, Bool.not_eq_true', Bool.not_eq_false', Bool.not_eq_true, Bool.not_eq_false, bne_iff_ne, beq_iff_eq, ne_eq] at hc2
          refine vk_nil ?_
          refine vk_nil ?_
          refine vk_nil ⟨some (.leaf ((eL (e2 eI eI)) line0)), some (.leaf ((eL (e2 eI eI)) kept0)), rfl, ?_⟩
          trivial
      · skip
        try simp only [List.length_take, List.length_drop, List.length_append, parts_len, filter_true, List.length_range, isInt_i, isInt_l, isInt_t, isBool_i, isBool_l, isBool_t, isList_i, isList_l, isList_t, isTup_i, isTup_l, isTup_t, isNone_n, isNone_i, isNone_l, isNone_t, Bool.not_true, Bool.not_false, Bool.true_and, Bool.and_true, Bool.false_or, Bool.or_false, List.length_map, List.length_cons, List.length_nil, decide_eq_true_eq, decide_eq_false_iff_not, Bool.and_eq_true, Bool.or_eq_true, Bool.and_eq_false_iff, Bool.or_eq_false_iff, Bool.not_eq_true', Bool.not_eq_false', Bool.not_eq_true, Bool.not_eq_false, bne_iff_ne, beq_iff_eq, ne_eq] at hc1
        refine vk_nil ?_
        refine vk_nil ⟨some (.leaf ((eL (e2 eI eI)) line0)), some (.leaf ((eL (e2 eI eI)) kept0)), rfl, ?_⟩
        trivial
    · obtain ⟨s_line0, s_kept0, rfl, _⟩ := hw
      refine vk_cons (vs_if (VW.tb (vw_and (vb_cmp (vc_gt (vlenE (vn 2).lsE B.b_len) ve_int)) (fun hq5 => (vw_and1 (vb_cmp (vc_eqI (vlenE (ve_call C_l_fewer hr (va_cons (vn 2) va_nil) ⟨_, rfl, ⟨hp.ne, fun p hm => (hp.ok p hm).1, fun p hm => by have := hb p hm; omega, by omega⟩, rfl⟩).lsE B.b_len) (vlenE (vn 2).lsE B.b_len))))))) (fun hc3 => ?_) (fun hc3 => ?_))
      · skip
        try simp only [List.length_take, List.length_drop, List.length_append, parts_len, filter_true, List.length_range, isInt_i, isInt_l, isInt_t, isBool_i, isBool_l, isBool_t, isList_i, isList_l, isList_t, isTup_i, isTup_l, isTup_t, isNone_n, isNone_i, isNone_l, isNone_t, Bool.not_true, Bool.not_false, Bool.true_and, Bool.and_true, Bool.false_or, Bool.or_false, List.length_map, List.length_cons, List.length_nil, decide_eq_true_eq, decide_eq_false_iff_not, Bool.and_eq_true, Bool.or_eq_true, Bool.and_eq_false_iff, Bool.or_eq_false_iff, Bool.not_eq_true', Bool.not_eq_false', Bool.not_eq_true, Bool.not_eq_false, bne_iff_ne, beq_iff_eq, ne_eq] at hc3
        refine vk_cons (vs_ret ve_bl ?_)
        refine ⟨_, rfl, ?_⟩
        try dsimp only
        have hM2 : 2 ≤ maxP classes0 := by
          by_cases e : 2 ≤ maxP classes0
          · exact e
          · have := hp.one_of e
            omega
        obtain ⟨_, _, h3⟩ := few_facts hp hs hM2
        rcases hB with h | h
        · omega
        · have := h3 h
          omega
      · skip
        try simp only [List.length_take, List.length_drop, List.length_append, parts_len, filter_true, List.length_range, isInt_i, isInt_l, isInt_t, isBool_i, isBool_l, isBool_t, isList_i, isList_l, isList_t, isTup_i, isTup_l, isTup_t, isNone_n, isNone_i, isNone_l, isNone_t, Bool.not_true, Bool.not_false, Bool.true_and, Bool.and_true, Bool.false_or, Bool.or_false, List.length_map, List.length_cons, List.length_nil, decide_eq_true_eq, decide_eq_false_iff_not, Bool.and_eq_true, Bool.or_eq_true, Bool.and_eq_false_iff, Bool.or_eq_false_iff, Bool.not_eq_true', Bool.not_eq_false', Bool.not_eq_true, Bool.not_eq_false, bne_iff_ne, beq_iff_eq, ne_eq] at hc3
        refine vk_nil ?_
        refine vk_seq (fun Γ => ∃ (s_line1 : Option OT), Γ = [none, some (.leaf ((eL eI) draws0)), some (.leaf ((eL (e2 eI eI)) classes0)), some (.leaf ((eL (e2 eI eI)) more0)), s_line1, s_kept0, none, none, none, none, none, none] ∧ (True)) (vs_if (vb_cmp (vc_eqI (ve_mod (vixE (0 : Int) (vn 1).lsE ve_int (by first | omega | assumption | (simp only [List.length_take, List.length_drop, List.length_append, parts_len, filter_true, List.length_range, isInt_i, isInt_l, isInt_t, isBool_i, isBool_l, isBool_t, isList_i, isList_l, isList_t, isTup_i, isTup_l, isTup_t, isNone_n, isNone_i, isNone_l, isNone_t, Bool.not_true, Bool.not_false, Bool.true_and, Bool.and_true, Bool.false_or, Bool.or_false, List.length_map, List.length_cons, List.length_nil, decide_eq_true_eq, decide_eq_false_iff_not, Bool.and_eq_true, Bool.or_eq_true, Bool.and_eq_false_iff, Bool.or_eq_false_iff, Bool.not_eq_true', Bool.not_eq_false', Bool.not_eq_true, Bool.not_eq_false, bne_iff_ne, beq_iff_eq, ne_eq] at *; omega) | (simp; done) | (simp at *; omega))) ve_int (by first | omega | assumption | (simp only [List.length_take, List.length_drop, List.length_append, parts_len, filter_true, List.length_range, isInt_i, isInt_l, isInt_t, isBool_i, isBool_l, isBool_t, isList_i, isList_l, isList_t, isTup_i, isTup_l, isTup_t, isNone_n, isNone_i, isNone_l, isNone_t, Bool.not_true, Bool.not_false, Bool.true_and, Bool.and_true, Bool.false_or, Bool.or_false, List.length_map, List.length_cons, List.length_nil, decide_eq_true_eq, decide_eq_false_iff_not, Bool.and_eq_true, Bool.or_eq_true, Bool.and_eq_false_iff, Bool.or_eq_false_iff, Bool.not_eq_true', Bool.not_eq_false', Bool.not_eq_true, Bool.not_eq_false, bne_iff_ne, beq_iff_eq, ne_eq] at *; omega) | (simp; done) | (simp at *; omega))) ve_int)) (fun hc4 => ?_) (fun hc4 => ?_)) ?_
        · skip
          try simp only [List.length_take, List.length_drop, List.length_append, parts_len, filter_true, List.length_range, isInt_i, isInt_l, isInt_t, isBool_i, isBool_l, isBool_t, isList_i, isList_l, isList_t, isTup_i, isTup_l, isTup_t, isNone_n, isNone_i, isNone_l, isNone_t, Bool.not_true, Bool.not_false, Bool.true_and, Bool.and_true, Bool.false_or, Bool.or_false, List.length_map, List.length_cons, List.length_nil, decide_eq_true_eq, decide_eq_false_iff_not, Bool.and_eq_true, Bool.or_eq_true, Bool.and_eq_false_iff, Bool.or_eq_false_iff, Bool.not_eq_true', Bool.not_eq_false', Bool.not_eq_true, Bool.not_eq_false, bne_iff_ne, beq_iff_eq, ne_eq] at hc4
          refine vk_cons (vs_forU 4 (ve_callN C_l_lines hr (vms_cons (vn 1) vms_nil) ⟨_, rfl, h60, rfl⟩).frzN (fun xs0 (m1 : Nat) Γ => ∃ (s_line2 : Option OT), Γ = [none, some (.leaf ((eL eI) draws0)), some (.leaf ((eL (e2 eI eI)) classes0)), some (.leaf ((eL (e2 eI eI)) more0)), s_line2, s_kept0, none, none, none, none, none, none] ∧ (True)) sc_law.nd (fun xs0 hR0 => ⟨s_line0, rfl, ?_⟩) (fun xs0 hR0 m1 line1 _ hx1 hw => ?_) (fun xs0 hR0 _ hw => ?_))
          · skip
            trivial
          · obtain ⟨s_line2, rfl, _⟩ := hw
            have hM := hR0 line1 (List.mem_of_getElem? hx1)
            refine vk_cons (vs_if (vb_not (vb_val (ve_call C_l_told hr (va_cons (ve_sortE (roomy hr) seP (vn 4).lsE B.b_sorted).frzE va_nil) ⟨_, rfl, ⟨hM.1.sorted, hM.1.srt, hM.2.1.sorted hM.1, by rw [List.length_mergeSort]; have := hM.2.2.1; omega, sorted_all hM.2.2.2⟩, rfl⟩))) (fun hc5 => ?_) (fun hc5 => ?_))
            · skip
              try simp only [List.length_take, List.length_drop, List.length_append, parts_len, filter_true, List.length_range, isInt_i, isInt_l, isInt_t, isBool_i, isBool_l, isBool_t, isList_i, isList_l, isList_t, isTup_i, isTup_l, isTup_t, isNone_n, isNone_i, isNone_l, isNone_t, Bool.not_true, Bool.not_false, Bool.true_and, Bool.and_true, Bool.false_or, Bool.or_false, List.length_map, List.length_cons, List.length_nil, decide_eq_true_eq, decide_eq_false_iff_not, Bool.and_eq_true, Bool.or_eq_true, Bool.and_eq_false_iff, Bool.or_eq_false_iff, Bool.not_eq_true', Bool.not_eq_false', Bool.not_eq_true, Bool.not_eq_false, bne_iff_ne, beq_iff_eq, ne_eq] at hc5
              refine vk_cons (vs_ret ve_bl ?_)
              refine ⟨_, rfl, ?_⟩
              try dsimp only
              simp_all
            · skip
              try simp only [List.length_take, List.length_drop, List.length_append, parts_len, filter_true, List.length_range, isInt_i, isInt_l, isInt_t, isBool_i, isBool_l, isBool_t, isList_i, isList_l, isList_t, isTup_i, isTup_l, isTup_t, isNone_n, isNone_i, isNone_l, isNone_t, Bool.not_true, Bool.not_false, Bool.true_and, Bool.and_true, Bool.false_or, Bool.or_false, List.length_map, List.length_cons, List.length_nil, decide_eq_true_eq, decide_eq_false_iff_not, Bool.and_eq_true, Bool.or_eq_true, Bool.and_eq_false_iff, Bool.or_eq_false_iff, Bool.not_eq_true', Bool.not_eq_false', Bool.not_eq_true, Bool.not_eq_false, bne_iff_ne, beq_iff_eq, ne_eq] at hc5
              refine vk_nil ?_
              refine vk_nil ⟨some (.leaf ((eL (e2 eI eI)) line1)), rfl, ?_⟩
              trivial
          · obtain ⟨s_line2, rfl, _⟩ := hw
            refine vk_nil ⟨s_line2, rfl, ?_⟩
            trivial
        · skip
          try simp only [List.length_take, List.length_drop, List.length_append, parts_len, filter_true, List.length_range, isInt_i, isInt_l, isInt_t, isBool_i, isBool_l, isBool_t, isList_i, isList_l, isList_t, isTup_i, isTup_l, isTup_t, isNone_n, isNone_i, isNone_l, isNone_t, Bool.not_true, Bool.not_false, Bool.true_and, Bool.and_true, Bool.false_or, Bool.or_false, List.length_map, List.length_cons, List.length_nil, decide_eq_true_eq, decide_eq_false_iff_not, Bool.and_eq_true, Bool.or_eq_true, Bool.and_eq_false_iff, Bool.or_eq_false_iff, Bool.not_eq_true', Bool.not_eq_false', Bool.not_eq_true, Bool.not_eq_false, bne_iff_ne, beq_iff_eq, ne_eq] at hc4
          refine vk_nil ⟨s_line0, rfl, ?_⟩
          trivial
        rintro _ ⟨s_line1, rfl, _⟩
        skip
        refine vk_cons (vs_setG 6 eI (ve_add ve_int (ve_mulS ve_int (ve_intB (ve_cmp (vc_eqI (ve_mod (vixE (0 : Int) (vn 1).lsE ve_int (by first | omega | assumption | (simp only [List.length_take, List.length_drop, List.length_append, parts_len, filter_true, List.length_range, isInt_i, isInt_l, isInt_t, isBool_i, isBool_l, isBool_t, isList_i, isList_l, isList_t, isTup_i, isTup_l, isTup_t, isNone_n, isNone_i, isNone_l, isNone_t, Bool.not_true, Bool.not_false, Bool.true_and, Bool.and_true, Bool.false_or, Bool.or_false, List.length_map, List.length_cons, List.length_nil, decide_eq_true_eq, decide_eq_false_iff_not, Bool.and_eq_true, Bool.or_eq_true, Bool.and_eq_false_iff, Bool.or_eq_false_iff, Bool.not_eq_true', Bool.not_eq_false', Bool.not_eq_true, Bool.not_eq_false, bne_iff_ne, beq_iff_eq, ne_eq] at *; omega) | (simp; done) | (simp at *; omega))) ve_int (by first | omega | assumption | (simp only [List.length_take, List.length_drop, List.length_append, parts_len, filter_true, List.length_range, isInt_i, isInt_l, isInt_t, isBool_i, isBool_l, isBool_t, isList_i, isList_l, isList_t, isTup_i, isTup_l, isTup_t, isNone_n, isNone_i, isNone_l, isNone_t, Bool.not_true, Bool.not_false, Bool.true_and, Bool.and_true, Bool.false_or, Bool.or_false, List.length_map, List.length_cons, List.length_nil, decide_eq_true_eq, decide_eq_false_iff_not, Bool.and_eq_true, Bool.or_eq_true, Bool.and_eq_false_iff, Bool.or_eq_false_iff, Bool.not_eq_true', Bool.not_eq_false', Bool.not_eq_true, Bool.not_eq_false, bne_iff_ne, beq_iff_eq, ne_eq] at *; omega) | (simp; done) | (simp at *; omega))) ve_int)) B.b_int) (by first | omega | assumption | (simp only [List.length_take, List.length_drop, List.length_append, parts_len, filter_true, List.length_range, isInt_i, isInt_l, isInt_t, isBool_i, isBool_l, isBool_t, isList_i, isList_l, isList_t, isTup_i, isTup_l, isTup_t, isNone_n, isNone_i, isNone_l, isNone_t, Bool.not_true, Bool.not_false, Bool.true_and, Bool.and_true, Bool.false_or, Bool.or_false, List.length_map, List.length_cons, List.length_nil, decide_eq_true_eq, decide_eq_false_iff_not, Bool.and_eq_true, Bool.or_eq_true, Bool.and_eq_false_iff, Bool.or_eq_false_iff, Bool.not_eq_true', Bool.not_eq_false', Bool.not_eq_true, Bool.not_eq_false, bne_iff_ne, beq_iff_eq, ne_eq] at *; omega) | (simp; done) | (simp at *; omega)))) sc_law.nd fun n0 h_n0 => ?_)
        have hn46 : n0 = 4 ∨ n0 = 6 := by rw [h_n0]; split <;> omega
        refine vk_cons (vs_forU 4 (ve_callN C_l_all hr (vms_cons (vn 6) vms_nil) ⟨_, rfl, hn46, rfl⟩) (fun xs1 (m2 : Nat) Γ => ∃ (s_line3 : Option OT) (s_least0 : Option OT) (s_drop0 : Option OT) (s_fewer0 : Option OT), Γ = [none, some (.leaf ((eL eI) draws0)), some (.leaf ((eL (e2 eI eI)) classes0)), some (.leaf ((eL (e2 eI eI)) more0)), s_line3, s_kept0, some (.leaf (eI n0)), s_least0, s_drop0, s_fewer0, none, none] ∧ (True)) sc_law.nd (fun xs1 hR1 => ⟨s_line1, none, none, none, rfl, ?_⟩) (fun xs1 hR1 m2 line2 _ hx2 hw => ?_) (fun xs1 hR1 _ hw => ?_))
        · skip
          trivial
        · obtain ⟨s_line3, s_least0, s_drop0, s_fewer0, rfl, _⟩ := hw
          have hA := hR1.1 line2 (List.mem_of_getElem? hx2)
          have hAb : ∀ p ∈ line2, p.2 ≤ 10000000 := fun p hm => by have := hA.2.2.2.1 p hm; omega
          have hAm : 1 ≤ maxP line2 ∧ maxP line2 < 1000000000000 := by
            obtain ⟨q, h1, h2⟩ := maxP_mem hA.1.ne fun p hm => (hA.1.ok p hm).1
            have := (hA.1.ok q h1).1
            have := hAb q h1
            omega
          have hAl := hA.2.2.2.2
          refine vk_cons (vs_if (vb_not (vb_val (ve_call C_l_told hr (va_cons (vn 4) va_nil) ⟨_, rfl, ⟨hA.1, hA.2.1, hA.2.2.1, by have := hA.2.2.2.2; omega, hAb⟩, rfl⟩))) (fun hc6 => ?_) (fun hc6 => ?_))
          · skip
            try simp only [List.length_take, List.length_drop, List.length_append, parts_len, filter_true, List.length_range, isInt_i, isInt_l, isInt_t, isBool_i, isBool_l, isBool_t, isList_i, isList_l, isList_t, isTup_i, isTup_l, isTup_t, isNone_n, isNone_i, isNone_l, isNone_t, Bool.not_true, Bool.not_false, Bool.true_and, Bool.and_true, Bool.false_or, Bool.or_false, List.length_map, List.length_cons, List.length_nil, decide_eq_true_eq, decide_eq_false_iff_not, Bool.and_eq_true, Bool.or_eq_true, Bool.and_eq_false_iff, Bool.or_eq_false_iff, Bool.not_eq_true', Bool.not_eq_false', Bool.not_eq_true, Bool.not_eq_false, bne_iff_ne, beq_iff_eq, ne_eq] at hc6
            refine vk_cons (vs_ret ve_bl ?_)
            refine ⟨_, rfl, ?_⟩
            try dsimp only
            simp_all
          · skip
            try simp only [List.length_take, List.length_drop, List.length_append, parts_len, filter_true, List.length_range, isInt_i, isInt_l, isInt_t, isBool_i, isBool_l, isBool_t, isList_i, isList_l, isList_t, isTup_i, isTup_l, isTup_t, isNone_n, isNone_i, isNone_l, isNone_t, Bool.not_true, Bool.not_false, Bool.true_and, Bool.and_true, Bool.false_or, Bool.or_false, List.length_map, List.length_cons, List.length_nil, decide_eq_true_eq, decide_eq_false_iff_not, Bool.and_eq_true, Bool.or_eq_true, Bool.and_eq_false_iff, Bool.or_eq_false_iff, Bool.not_eq_true', Bool.not_eq_false', Bool.not_eq_true, Bool.not_eq_false, bne_iff_ne, beq_iff_eq, ne_eq] at hc6
            refine vk_nil ?_
            refine vk_cons (vs_setG 7 eI (ve_call C_l_least_factor hr (va_cons (vfst (ve_call C_l_great hr (va_cons (vn 4) va_nil) ⟨_, rfl, ⟨hA.1.ne, fun p hm => (hA.1.ok p hm).1, by have := hA.2.2.2.2; omega⟩, rfl⟩) ve_int) va_nil) ⟨_, rfl, hAm, rfl⟩) sc_law.nd fun least0 h_least0 => ?_)
            refine vk_cons (vs_forR 8 (fun (m3 : Nat) Γ => ∃ (s_drop1 : Option OT) (s_fewer1 : Option OT), Γ = [none, some (.leaf ((eL eI) draws0)), some (.leaf ((eL (e2 eI eI)) classes0)), some (.leaf ((eL (e2 eI eI)) more0)), some (.leaf ((eL (e2 eI eI)) line2)), s_kept0, some (.leaf (eI n0)), some (.leaf (eI least0)), s_drop1, s_fewer1, none, none] ∧ (True)) (fun _ => (vi_rng1 (vlenE (vn 4).lsE B.b_len) (by first | omega | assumption | (simp only [List.length_take, List.length_drop, List.length_append, parts_len, filter_true, List.length_range, isInt_i, isInt_l, isInt_t, isBool_i, isBool_l, isBool_t, isList_i, isList_l, isList_t, isTup_i, isTup_l, isTup_t, isNone_n, isNone_i, isNone_l, isNone_t, Bool.not_true, Bool.not_false, Bool.true_and, Bool.and_true, Bool.false_or, Bool.or_false, List.length_map, List.length_cons, List.length_nil, decide_eq_true_eq, decide_eq_false_iff_not, Bool.and_eq_true, Bool.or_eq_true, Bool.and_eq_false_iff, Bool.or_eq_false_iff, Bool.not_eq_true', Bool.not_eq_false', Bool.not_eq_true, Bool.not_eq_false, bne_iff_ne, beq_iff_eq, ne_eq] at *; omega) | (simp; done) | (simp at *; omega)) B.b_range)) sc_law.nd ⟨s_drop0, s_fewer0, rfl, ?_⟩ (fun m3 drop0 _ hx3 hw3 hw => ?_) (fun _ hw => ?_))
            · skip
              trivial
            · obtain ⟨s_drop1, s_fewer1, rfl, _⟩ := hw
              refine vk_cons (vs_setG 9 (eL (e2 eI eI)) (vcatE (vslE (vn 4).lsE vp_none (vp_some (vn 8)) (cutD_to _ _ (by first | omega | assumption | (simp only [List.length_take, List.length_drop, List.length_append, parts_len, filter_true, List.length_range, isInt_i, isInt_l, isInt_t, isBool_i, isBool_l, isBool_t, isList_i, isList_l, isList_t, isTup_i, isTup_l, isTup_t, isNone_n, isNone_i, isNone_l, isNone_t, Bool.not_true, Bool.not_false, Bool.true_and, Bool.and_true, Bool.false_or, Bool.or_false, List.length_map, List.length_cons, List.length_nil, decide_eq_true_eq, decide_eq_false_iff_not, Bool.and_eq_true, Bool.or_eq_true, Bool.and_eq_false_iff, Bool.or_eq_false_iff, Bool.not_eq_true', Bool.not_eq_false', Bool.not_eq_true, Bool.not_eq_false, bne_iff_ne, beq_iff_eq, ne_eq] at *; omega) | (simp; done) | (simp at *; omega)))).vl (vslE (vn 4).lsE (vp_some (ve_add (vn 8) ve_int)) vp_none (cutD_from _ _ (by first | omega | assumption | (simp only [List.length_take, List.length_drop, List.length_append, parts_len, filter_true, List.length_range, isInt_i, isInt_l, isInt_t, isBool_i, isBool_l, isBool_t, isList_i, isList_l, isList_t, isTup_i, isTup_l, isTup_t, isNone_n, isNone_i, isNone_l, isNone_t, Bool.not_true, Bool.not_false, Bool.true_and, Bool.and_true, Bool.false_or, Bool.or_false, List.length_map, List.length_cons, List.length_nil, decide_eq_true_eq, decide_eq_false_iff_not, Bool.and_eq_true, Bool.or_eq_true, Bool.and_eq_false_iff, Bool.or_eq_false_iff, Bool.not_eq_true', Bool.not_eq_false', Bool.not_eq_true, Bool.not_eq_false, bne_iff_ne, beq_iff_eq, ne_eq] at *; omega) | (simp; done) | (simp at *; omega)))).vl (by first | omega | assumption | (simp only [List.length_take, List.length_drop, List.length_append, parts_len, filter_true, List.length_range, isInt_i, isInt_l, isInt_t, isBool_i, isBool_l, isBool_t, isList_i, isList_l, isList_t, isTup_i, isTup_l, isTup_t, isNone_n, isNone_i, isNone_l, isNone_t, Bool.not_true, Bool.not_false, Bool.true_and, Bool.and_true, Bool.false_or, Bool.or_false, List.length_map, List.length_cons, List.length_nil, decide_eq_true_eq, decide_eq_false_iff_not, Bool.and_eq_true, Bool.or_eq_true, Bool.and_eq_false_iff, Bool.or_eq_false_iff, Bool.not_eq_true', Bool.not_eq_false', Bool.not_eq_true, Bool.not_eq_false, bne_iff_ne, beq_iff_eq, ne_eq] at *; omega) | (simp; done) | (simp at *; omega))).frzE sc_law.nd fun fewer0 h_fewer0 => ?_)
              have hsub := hA.1.sub (n := drop0.toNat) (by omega) (List.Sublist.refl _)
              have h_fewer0 : fewer0 = line2.take drop0.toNat ++ line2.drop (drop0.toNat + 1) := by rw [h_fewer0, show (drop0 + 1).toNat = drop0.toNat + 1 by omega]
              have hfl : fewer0.length ≤ 30000 := by rw [h_fewer0, List.length_append, List.length_take, List.length_drop]; omega
              have hfb : ∀ p ∈ fewer0, p.2 ≤ 10000000 := fun p hm => hAb p ((cut_perm (n := drop0.toNat) (by omega)).mem_iff.mpr (List.mem_cons_of_mem _ (h_fewer0 ▸ hm)))
              have hlf : leftF fewer0 = (line2.getD drop0.toNat (0, 0)).1 := by rw [h_fewer0]; exact left_drop hA.1 (by omega)
              refine vk_cons (vs_if (VW.tb (vw_and (vb_cmp (vc_gt (vlenE (vn 9).lsE B.b_len) ve_int)) (fun hq6 => (vw_and1 (vb_cmp (vc_neD (roomy hr) (ve_call C_p_parting_paper hr (va_cons (ve_listOf (vn 9).lsE B.b_list).frzE va_nil) ⟨_, rfl, ⟨by rw [h_fewer0]; exact hsub.1, by omega, fun p hm => by have := hfb p hm; omega⟩, rfl⟩).v (vtup2 (ea := eS) (eb := eI) ve_str (vfst (vixE ((0 : Int), (0 : Int)) (vn 4).lsE (vn 8) (by first | omega | assumption | (simp only [List.length_take, List.length_drop, List.length_append, parts_len, filter_true, List.length_range, isInt_i, isInt_l, isInt_t, isBool_i, isBool_l, isBool_t, isList_i, isList_l, isList_t, isTup_i, isTup_l, isTup_t, isNone_n, isNone_i, isNone_l, isNone_t, Bool.not_true, Bool.not_false, Bool.true_and, Bool.and_true, Bool.false_or, Bool.or_false, List.length_map, List.length_cons, List.length_nil, decide_eq_true_eq, decide_eq_false_iff_not, Bool.and_eq_true, Bool.or_eq_true, Bool.and_eq_false_iff, Bool.or_eq_false_iff, Bool.not_eq_true', Bool.not_eq_false', Bool.not_eq_true, Bool.not_eq_false, bne_iff_ne, beq_iff_eq, ne_eq] at *; omega) | (simp; done) | (simp at *; omega))) ve_int)).v (sh_left _) (sh_left _))))))) (fun hc7 => ?_) (fun hc7 => ?_))
              · skip
                try simp only [List.length_take, List.length_drop, List.length_append, parts_len, filter_true, List.length_range, isInt_i, isInt_l, isInt_t, isBool_i, isBool_l, isBool_t, isList_i, isList_l, isList_t, isTup_i, isTup_l, isTup_t, isNone_n, isNone_i, isNone_l, isNone_t, Bool.not_true, Bool.not_false, Bool.true_and, Bool.and_true, Bool.false_or, Bool.or_false, List.length_map, List.length_cons, List.length_nil, decide_eq_true_eq, decide_eq_false_iff_not, Bool.and_eq_true, Bool.or_eq_true, Bool.and_eq_false_iff, Bool.or_eq_false_iff, Bool.not_eq_true', Bool.not_eq_false', Bool.not_eq_true, Bool.not_eq_false, bne_iff_ne, beq_iff_eq, ne_eq] at hc7
                refine vk_cons (vs_ret ve_bl ?_)
                refine ⟨_, rfl, ?_⟩
                try dsimp only
                rw [hlf] at hc7
                exact absurd ((eqv_ll _).symm.trans hc7.2) (by decide)
              · skip
                try simp only [List.length_take, List.length_drop, List.length_append, parts_len, filter_true, List.length_range, isInt_i, isInt_l, isInt_t, isBool_i, isBool_l, isBool_t, isList_i, isList_l, isList_t, isTup_i, isTup_l, isTup_t, isNone_n, isNone_i, isNone_l, isNone_t, Bool.not_true, Bool.not_false, Bool.true_and, Bool.and_true, Bool.false_or, Bool.or_false, List.length_map, List.length_cons, List.length_nil, decide_eq_true_eq, decide_eq_false_iff_not, Bool.and_eq_true, Bool.or_eq_true, Bool.and_eq_false_iff, Bool.or_eq_false_iff, Bool.not_eq_true', Bool.not_eq_false', Bool.not_eq_true, Bool.not_eq_false, bne_iff_ne, beq_iff_eq, ne_eq] at hc7
                refine vk_nil ?_
                refine vk_nil ⟨some (.leaf (eI drop0)), some (.leaf ((eL (e2 eI eI)) fewer0)), rfl, ?_⟩
                trivial
            · obtain ⟨s_drop1, s_fewer1, rfl, _⟩ := hw
              refine vk_cons (vs_if (VW.tb (vw_and (vb_cmp (vc_gt (vlenE (vn 4).lsE B.b_len) ve_int)) (fun hq7 => (vw_and1 (vb_cmp (vc_lt (vlenE (vn 4).lsE B.b_len) (vn 7))))))) (fun hc8 => ?_) (fun hc8 => ?_))
              · skip
                try simp only [List.length_take, List.length_drop, List.length_append, parts_len, filter_true, List.length_range, isInt_i, isInt_l, isInt_t, isBool_i, isBool_l, isBool_t, isList_i, isList_l, isList_t, isTup_i, isTup_l, isTup_t, isNone_n, isNone_i, isNone_l, isNone_t, Bool.not_true, Bool.not_false, Bool.true_and, Bool.and_true, Bool.false_or, Bool.or_false, List.length_map, List.length_cons, List.length_nil, decide_eq_true_eq, decide_eq_false_iff_not, Bool.and_eq_true, Bool.or_eq_true, Bool.and_eq_false_iff, Bool.or_eq_false_iff, Bool.not_eq_true', Bool.not_eq_false', Bool.not_eq_true, Bool.not_eq_false, bne_iff_ne, beq_iff_eq, ne_eq] at hc8
                refine vk_cons (vs_ret ve_bl ?_)
                refine ⟨_, rfl, ?_⟩
                try dsimp only
                simp only at h_least0
                rcases hA.2.2.1 with h | h
                · omega
                · have := cnt_le line2
                  omega
              · skip
                try simp only [List.length_take, List.length_drop, List.length_append, parts_len, filter_true, List.length_range, isInt_i, isInt_l, isInt_t, isBool_i, isBool_l, isBool_t, isList_i, isList_l, isList_t, isTup_i, isTup_l, isTup_t, isNone_n, isNone_i, isNone_l, isNone_t, Bool.not_true, Bool.not_false, Bool.true_and, Bool.and_true, Bool.false_or, Bool.or_false, List.length_map, List.length_cons, List.length_nil, decide_eq_true_eq, decide_eq_false_iff_not, Bool.and_eq_true, Bool.or_eq_true, Bool.and_eq_false_iff, Bool.or_eq_false_iff, Bool.not_eq_true', Bool.not_eq_false', Bool.not_eq_true, Bool.not_eq_false, bne_iff_ne, beq_iff_eq, ne_eq] at hc8
                refine vk_nil ?_
                refine vk_nil ⟨some (.leaf ((eL (e2 eI eI)) line2)), some (.leaf (eI least0)), s_drop1, s_fewer1, rfl, ?_⟩
                trivial
        · obtain ⟨s_line3, s_least0, s_drop0, s_fewer0, rfl, _⟩ := hw
          refine vk_cons (vs_ret (ve_call C_l_told hr (va_cons (vn 2) va_nil) ⟨_, rfl, ⟨hp, hs, hB, by omega, fun p hm => by have := hb p hm; omega⟩, rfl⟩) ?_)
          refine ⟨_, rfl, ?_⟩
          try dsimp only
          first | done | rfl | omega | (simp_all; done) | (simp_all; omega) -- ret return _law_told(classes)
end
end My

namespace My
open PySem PySem.Spec PyProof.Rows L2 V3
def d_p_is_number : He.DefD := ⟨("is_number", none), "is_number", "is_number", defArgs s_p_is_number, defBody s_p_is_number, defScope s_p_is_number, [], []⟩
def d_p_is_number_tuple : He.DefD := ⟨("is_number_tuple", none), "is_number_tuple", "is_number_tuple", defArgs s_p_is_number_tuple, defBody s_p_is_number_tuple, defScope s_p_is_number_tuple, [], []⟩
def d_p_is_pair : He.DefD := ⟨("is_pair", none), "is_pair", "is_pair", defArgs s_p_is_pair, defBody s_p_is_pair, defScope s_p_is_pair, [], []⟩
def d_p_common_divisor : He.DefD := ⟨("common_divisor", none), "common_divisor", "common_divisor", defArgs s_p_common_divisor, defBody s_p_common_divisor, defScope s_p_common_divisor, [], []⟩
def d_p_is_class : He.DefD := ⟨("is_class", none), "is_class", "is_class", defArgs s_p_is_class, defBody s_p_is_class, defScope s_p_is_class, [], []⟩
def d_p_is_class_list : He.DefD := ⟨("is_class_list", none), "is_class_list", "is_class_list", defArgs s_p_is_class_list, defBody s_p_is_class_list, defScope s_p_is_class_list, [], []⟩
def d_p_do_meet : He.DefD := ⟨("do_meet", none), "do_meet", "do_meet", defArgs s_p_do_meet, defBody s_p_do_meet, defScope s_p_do_meet, [], []⟩
def d_p_first_meeting : He.DefD := ⟨("first_meeting", none), "first_meeting", "first_meeting", defArgs s_p_first_meeting, defBody s_p_first_meeting, defScope s_p_first_meeting, [], []⟩
def d_p_common_round : He.DefD := ⟨("common_round", none), "common_round", "common_round", defArgs s_p_common_round, defBody s_p_common_round, defScope s_p_common_round, [], []⟩
def d_p_shares_fill : He.DefD := ⟨("shares_fill", none), "shares_fill", "shares_fill", defArgs s_p_shares_fill, defBody s_p_shares_fill, defScope s_p_shares_fill, [], []⟩
def d_p_is_held : He.DefD := ⟨("is_held", none), "is_held", "is_held", defArgs s_p_is_held, defBody s_p_is_held, defScope s_p_is_held, [], []⟩
def d_p_first_left : He.DefD := ⟨("first_left", none), "first_left", "first_left", defArgs s_p_first_left, defBody s_p_first_left, defScope s_p_first_left, [], []⟩
def d_p_parting_paper : He.DefD := ⟨("parting_paper", none), "parting_paper", "parting_paper", defArgs s_p_parting_paper, defBody s_p_parting_paper, defScope s_p_parting_paper, [], []⟩
def d_p_is_parting : He.DefD := ⟨("is_parting", none), "is_parting", "is_parting", defArgs s_p_is_parting, defBody s_p_is_parting, defScope s_p_is_parting, [], []⟩
def d_p_greatest_period : He.DefD := ⟨("greatest_period", none), "greatest_period", "greatest_period", defArgs s_p_greatest_period, defBody s_p_greatest_period, defScope s_p_greatest_period, [], []⟩
def d_l_draws : He.DefD := ⟨("_law_draws", none), "_law_draws", "_law_draws", defArgs s_l_draws, defBody s_l_draws, defScope s_l_draws, [], []⟩
def d_l_cell : He.DefD := ⟨("_law_cell", none), "_law_cell", "_law_cell", defArgs s_l_cell, defBody s_l_cell, defScope s_l_cell, [], []⟩
def d_l_is_number : He.DefD := ⟨("_law_is_number", none), "_law_is_number", "_law_is_number", defArgs s_l_is_number, defBody s_l_is_number, defScope s_l_is_number, [], []⟩
def d_l_gcd : He.DefD := ⟨("_law_gcd", none), "_law_gcd", "_law_gcd", defArgs s_l_gcd, defBody s_l_gcd, defScope s_l_gcd, [], []⟩
def d_l_is_pair : He.DefD := ⟨("_law_is_pair", none), "_law_is_pair", "_law_is_pair", defArgs s_l_is_pair, defBody s_l_is_pair, defScope s_l_is_pair, [], []⟩
def d_l_is_class : He.DefD := ⟨("_law_is_class", none), "_law_is_class", "_law_is_class", defArgs s_l_is_class, defBody s_l_is_class, defScope s_l_is_class, [], []⟩
def d_l_is_classes : He.DefD := ⟨("_law_is_classes", none), "_law_is_classes", "_law_is_classes", defArgs s_l_is_classes, defBody s_l_is_classes, defScope s_l_is_classes, [], []⟩
def d_l_meets : He.DefD := ⟨("_law_meets", none), "_law_meets", "_law_meets", defArgs s_l_meets, defBody s_l_meets, defScope s_l_meets, [], []⟩
def d_l_round : He.DefD := ⟨("_law_round", none), "_law_round", "_law_round", defArgs s_l_round, defBody s_l_round, defScope s_l_round, [], []⟩
def d_l_is_parting : He.DefD := ⟨("_law_is_parting", none), "_law_is_parting", "_law_is_parting", defArgs s_l_is_parting, defBody s_l_is_parting, defScope s_l_is_parting, [], []⟩
def d_l_split : He.DefD := ⟨("_law_split", none), "_law_split", "_law_split", defArgs s_l_split, defBody s_l_split, defScope s_l_split, [], []⟩
def d_l_splits : He.DefD := ⟨("_law_splits", none), "_law_splits", "_law_splits", defArgs s_l_splits, defBody s_l_splits, defScope s_l_splits, [], []⟩
def d_l_greedy : He.DefD := ⟨("_law_greedy", none), "_law_greedy", "_law_greedy", defArgs s_l_greedy, defBody s_l_greedy, defScope s_l_greedy, [], []⟩
def d_l_crooked : He.DefD := ⟨("_law_crooked", none), "_law_crooked", "_law_crooked", defArgs s_l_crooked, defBody s_l_crooked, defScope s_l_crooked, [], []⟩
def d_l_some_parting : He.DefD := ⟨("_law_some_parting", none), "_law_some_parting", "_law_some_parting", defArgs s_l_some_parting, defBody s_l_some_parting, defScope s_l_some_parting, [], []⟩
def d_l_least_factor : He.DefD := ⟨("_law_least_factor", none), "_law_least_factor", "_law_least_factor", defArgs s_l_least_factor, defBody s_l_least_factor, defScope s_l_least_factor, [], []⟩
def d_l_great : He.DefD := ⟨("_law_great", none), "_law_great", "_law_great", defArgs s_l_great, defBody s_l_great, defScope s_l_great, [], []⟩
def d_l_told : He.DefD := ⟨("_law_told", none), "_law_told", "_law_told", defArgs s_l_told, defBody s_l_told, defScope s_l_told, [], []⟩
def d_l_fewer : He.DefD := ⟨("_law_fewer", none), "_law_fewer", "_law_fewer", defArgs s_l_fewer, defBody s_l_fewer, defScope s_l_fewer, [], []⟩
def d_l_all : He.DefD := ⟨("_law_all", none), "_law_all", "_law_all", defArgs s_l_all, defBody s_l_all, defScope s_l_all, [], []⟩
def d_l_lines : He.DefD := ⟨("_law_lines", none), "_law_lines", "_law_lines", defArgs s_l_lines, defBody s_l_lines, defScope s_l_lines, [], []⟩
def d_law : He.DefD := ⟨("law", none), "law", "law", defArgs s_law, defBody s_law, defScope s_law, [], []⟩
def fn : List He.DefD := [d_p_is_number, d_p_is_number_tuple, d_p_is_pair, d_p_common_divisor, d_p_is_class, d_p_is_class_list, d_p_do_meet, d_p_first_meeting, d_p_common_round, d_p_shares_fill, d_p_is_held, d_p_first_left, d_p_parting_paper, d_p_is_parting, d_p_greatest_period, d_l_draws, d_l_cell, d_l_is_number, d_l_gcd, d_l_is_pair, d_l_is_class, d_l_is_classes, d_l_meets, d_l_round, d_l_is_parting, d_l_split, d_l_splits, d_l_greedy, d_l_crooked, d_l_some_parting, d_l_least_factor, d_l_great, d_l_told, d_l_fewer, d_l_all, d_l_lines, d_law]
def fa : List He.Fa := [.glo "is_number", .glo "is_number_tuple", .glo "is_pair", .glo "common_divisor", .glo "is_class", .glo "is_class_list", .glo "do_meet", .glo "first_meeting", .glo "common_round", .glo "shares_fill", .glo "is_held", .glo "first_left", .glo "parting_paper", .glo "is_parting", .glo "greatest_period", .glo "_law_draws", .glo "_law_cell", .glo "_law_is_number", .glo "_law_gcd", .glo "_law_is_pair", .glo "_law_is_class", .glo "_law_is_classes", .glo "_law_meets", .glo "_law_round", .glo "_law_is_parting", .glo "_law_split", .glo "_law_splits", .glo "_law_greedy", .glo "_law_crooked", .glo "_law_some_parting", .glo "_law_least_factor", .glo "_law_great", .glo "_law_told", .glo "_law_fewer", .glo "_law_all", .glo "_law_lines", .glo "law", .free "abs", .free "bool", .free "int", .free "isinstance", .free "len", .free "list", .free "max", .free "range", .free "sorted", .free "sum", .free "tuple"]
abbrev R : PySem.W.OpenRow := PySem.W.OpenLaw.row PySem.Challenge.rw_daysround_k66_whole_the_greatest_period
abbrev hk : PySem.W.Hook := He.hookD 4 fa fn
def ob (s : PySem.W.SharedT) : He.AlD := He.obsDG 4 fa fn (HandSHeadRun.getT s)
theorem ob_eq (s : PySem.W.SharedT) : ob s = hk.obs s.abs := He.obsDG_eq (HandSHeadRun.getT_eq s)
def loose : List PySem.Str := (["is_number", "is_number_tuple", "is_pair", "common_divisor", "is_class", "is_class_list", "do_meet", "first_meeting", "common_round", "shares_fill", "is_held", "first_left", "parting_paper", "is_parting", "greatest_period", "_law_draws", "_law_cell", "_law_is_number", "_law_gcd", "_law_is_pair", "_law_is_class", "_law_is_classes", "_law_meets", "_law_round", "_law_is_parting", "_law_split", "_law_splits", "_law_greedy", "_law_crooked", "_law_some_parting"] : List PySem.Str) ++ (["_law_least_factor", "_law_great", "_law_told", "_law_fewer", "_law_all", "_law_lines"] : List PySem.Str)
theorem run (w : World) : HandSHeadRun.RunEq R (PySem.W.view R.prog [40]) hk ob 2000 loose w := by
  intro os
  kernel_rfl
theorem facts {P : Program} {w : World} {K : Fg} {h : Heap} {mg : Str → Option Value} {f : Addr} (X : K.In h) (G : h.Ns mainGlobals mg) (hfa : mg ("law" : Str) = some (.ref f)) (c : He.SaysD fa fn K) :
    ∃ fd : FuncData, (∀ (s : Shared) (v : Value), BindsTo s fd ⟨[v], []⟩ [("script", v)]) ∧ ∀ base : Heap, K.In base → base.Ns mainGlobals mg → FnOk P w K mg base CX0 8 f fd ["script"] (SpN K pre_law) := by
  have B : Bl mg := ⟨He.free_ok X G (c.fact 37 (f := .free "abs") rfl), He.free_ok X G (c.fact 38 (f := .free "bool") rfl), He.free_ok X G (c.fact 39 (f := .free "int") rfl), He.free_ok X G (c.fact 40 (f := .free "isinstance") rfl), He.free_ok X G (c.fact 41 (f := .free "len") rfl), He.free_ok X G (c.fact 42 (f := .free "list") rfl), He.free_ok X G (c.fact 43 (f := .free "max") rfl), He.free_ok X G (c.fact 44 (f := .free "range") rfl), He.free_ok X G (c.fact 45 (f := .free "sorted") rfl), He.free_ok X G (c.fact 46 (f := .free "sum") rfl), He.free_ok X G (c.fact 47 (f := .free "tuple") rfl)⟩
  obtain ⟨fd_p_is_number, F_p_is_number⟩ := c.def_ 0 (d := d_p_is_number) rfl
  obtain ⟨fd_p_is_number_tuple, F_p_is_number_tuple⟩ := c.def_ 1 (d := d_p_is_number_tuple) rfl
  obtain ⟨fd_p_is_pair, F_p_is_pair⟩ := c.def_ 2 (d := d_p_is_pair) rfl
  obtain ⟨fd_p_common_divisor, F_p_common_divisor⟩ := c.def_ 3 (d := d_p_common_divisor) rfl
  obtain ⟨fd_p_is_class, F_p_is_class⟩ := c.def_ 4 (d := d_p_is_class) rfl
  obtain ⟨fd_p_is_class_list, F_p_is_class_list⟩ := c.def_ 5 (d := d_p_is_class_list) rfl
  obtain ⟨fd_p_do_meet, F_p_do_meet⟩ := c.def_ 6 (d := d_p_do_meet) rfl
  obtain ⟨fd_p_first_meeting, F_p_first_meeting⟩ := c.def_ 7 (d := d_p_first_meeting) rfl
  obtain ⟨fd_p_common_round, F_p_common_round⟩ := c.def_ 8 (d := d_p_common_round) rfl
  obtain ⟨fd_p_shares_fill, F_p_shares_fill⟩ := c.def_ 9 (d := d_p_shares_fill) rfl
  obtain ⟨fd_p_is_held, F_p_is_held⟩ := c.def_ 10 (d := d_p_is_held) rfl
  obtain ⟨fd_p_first_left, F_p_first_left⟩ := c.def_ 11 (d := d_p_first_left) rfl
  obtain ⟨fd_p_parting_paper, F_p_parting_paper⟩ := c.def_ 12 (d := d_p_parting_paper) rfl
  obtain ⟨fd_p_is_parting, F_p_is_parting⟩ := c.def_ 13 (d := d_p_is_parting) rfl
  obtain ⟨fd_p_greatest_period, F_p_greatest_period⟩ := c.def_ 14 (d := d_p_greatest_period) rfl
  obtain ⟨fd_l_draws, F_l_draws⟩ := c.def_ 15 (d := d_l_draws) rfl
  obtain ⟨fd_l_cell, F_l_cell⟩ := c.def_ 16 (d := d_l_cell) rfl
  obtain ⟨fd_l_is_number, F_l_is_number⟩ := c.def_ 17 (d := d_l_is_number) rfl
  obtain ⟨fd_l_gcd, F_l_gcd⟩ := c.def_ 18 (d := d_l_gcd) rfl
  obtain ⟨fd_l_is_pair, F_l_is_pair⟩ := c.def_ 19 (d := d_l_is_pair) rfl
  obtain ⟨fd_l_is_class, F_l_is_class⟩ := c.def_ 20 (d := d_l_is_class) rfl
  obtain ⟨fd_l_is_classes, F_l_is_classes⟩ := c.def_ 21 (d := d_l_is_classes) rfl
  obtain ⟨fd_l_meets, F_l_meets⟩ := c.def_ 22 (d := d_l_meets) rfl
  obtain ⟨fd_l_round, F_l_round⟩ := c.def_ 23 (d := d_l_round) rfl
  obtain ⟨fd_l_is_parting, F_l_is_parting⟩ := c.def_ 24 (d := d_l_is_parting) rfl
  obtain ⟨fd_l_split, F_l_split⟩ := c.def_ 25 (d := d_l_split) rfl
  obtain ⟨fd_l_splits, F_l_splits⟩ := c.def_ 26 (d := d_l_splits) rfl
  obtain ⟨fd_l_greedy, F_l_greedy⟩ := c.def_ 27 (d := d_l_greedy) rfl
  obtain ⟨fd_l_crooked, F_l_crooked⟩ := c.def_ 28 (d := d_l_crooked) rfl
  obtain ⟨fd_l_some_parting, F_l_some_parting⟩ := c.def_ 29 (d := d_l_some_parting) rfl
  obtain ⟨fd_l_least_factor, F_l_least_factor⟩ := c.def_ 30 (d := d_l_least_factor) rfl
  obtain ⟨fd_l_great, F_l_great⟩ := c.def_ 31 (d := d_l_great) rfl
  obtain ⟨fd_l_told, F_l_told⟩ := c.def_ 32 (d := d_l_told) rfl
  obtain ⟨fd_l_fewer, F_l_fewer⟩ := c.def_ 33 (d := d_l_fewer) rfl
  obtain ⟨fd_l_all, F_l_all⟩ := c.def_ 34 (d := d_l_all) rfl
  obtain ⟨fd_l_lines, F_l_lines⟩ := c.def_ 35 (d := d_l_lines) rfl
  obtain ⟨fd_law, F_law⟩ := c.def_ 36 (d := d_law) rfl
  have e := hfa.symm.trans (He.glo_ok X G (c.fact 36 (f := .glo "law") rfl))
  cases e
  have b := FunD.bindsA (ps := ["script"]) F_law fun _ _ _ _ _ _ us hl => match us, hl with | [_], _ => rfl
  refine ⟨fd_law, fun s v => b s [v] rfl, fun base _ _ => ?_⟩
  have C_l_all : Cal P w K mg base 1 "_law_all" 1 (SpN K pre_l_all) := cal_of (st := s_l_all) F_l_all (ok_l_all (k := 0) F_l_all B ) (He.glo_ok X G (c.fact 34 (f := .glo "_law_all") rfl)) (F_l_all.bindsN fun _ _ _ _ _ _ us hl => match us, hl with | [_], _ => rfl)
  have C_l_draws : Cal P w K mg base 1 "_law_draws" 2 (SpN K pre_l_draws) := cal_of (st := s_l_draws) F_l_draws (ok_l_draws (k := 0) F_l_draws B ) (He.glo_ok X G (c.fact 15 (f := .glo "_law_draws") rfl)) (F_l_draws.bindsN fun _ _ _ _ _ _ us hl => match us, hl with | [_, _], _ => rfl)
  have C_l_great : Cal P w K mg base 1 "_law_great" 1 (SpD K pre_l_great) := cal_of (st := s_l_great) F_l_great (ok_l_great (k := 0) F_l_great B ) (He.glo_ok X G (c.fact 31 (f := .glo "_law_great") rfl)) (F_l_great.bindsN fun _ _ _ _ _ _ us hl => match us, hl with | [_], _ => rfl)
  have C_l_least_factor : Cal P w K mg base 1 "_law_least_factor" 1 (SpD K pre_l_least_factor) := cal_of (st := s_l_least_factor) F_l_least_factor (ok_l_least_factor (k := 0) F_l_least_factor B ) (He.glo_ok X G (c.fact 30 (f := .glo "_law_least_factor") rfl)) (F_l_least_factor.bindsN fun _ _ _ _ _ _ us hl => match us, hl with | [_], _ => rfl)
  have C_l_fewer : Cal P w K mg base 2 "_law_fewer" 1 (SpD K pre_l_fewer) := cal_of (st := s_l_fewer) F_l_fewer (ok_l_fewer (k := 1) F_l_fewer B (C_l_great := C_l_great.mono (by decide)) (C_l_least_factor := C_l_least_factor.mono (by decide))) (He.glo_ok X G (c.fact 33 (f := .glo "_law_fewer") rfl)) (F_l_fewer.bindsN fun _ _ _ _ _ _ us hl => match us, hl with | [_], _ => rfl)
  have C_l_lines : Cal P w K mg base 1 "_law_lines" 1 (SpN K pre_l_lines) := cal_of (st := s_l_lines) F_l_lines (ok_l_lines (k := 0) F_l_lines B ) (He.glo_ok X G (c.fact 35 (f := .glo "_law_lines") rfl)) (F_l_lines.bindsN fun _ _ _ _ _ _ us hl => match us, hl with | [_], _ => rfl)
  have C_l_cell : Cal P w K mg base 1 "_law_cell" 2 (SpD K pre_l_cell) := cal_of (st := s_l_cell) F_l_cell (ok_l_cell (k := 0) F_l_cell B ) (He.glo_ok X G (c.fact 16 (f := .glo "_law_cell") rfl)) (F_l_cell.bindsN fun _ _ _ _ _ _ us hl => match us, hl with | [_, _], _ => rfl)
  have C_l_split : Cal P w K mg base 1 "_law_split" 3 (SpD K pre_l_split) := cal_of (st := s_l_split) F_l_split (ok_l_split (k := 0) F_l_split B ) (He.glo_ok X G (c.fact 25 (f := .glo "_law_split") rfl)) (F_l_split.bindsN fun _ _ _ _ _ _ us hl => match us, hl with | [_, _, _], _ => rfl)
  have C_l_crooked : Cal P w K mg base 2 "_law_crooked" 2 (SpN K pre_l_crooked) := cal_of (st := s_l_crooked) F_l_crooked (ok_l_crooked (k := 1) F_l_crooked B (C_l_cell := C_l_cell.mono (by decide)) (C_l_split := C_l_split.mono (by decide))) (He.glo_ok X G (c.fact 28 (f := .glo "_law_crooked") rfl)) (F_l_crooked.bindsN fun _ _ _ _ _ _ us hl => match us, hl with | [_, _], _ => rfl)
  have C_l_greedy : Cal P w K mg base 2 "_law_greedy" 3 (SpN K pre_l_greedy) := cal_of (st := s_l_greedy) F_l_greedy (ok_l_greedy (k := 1) F_l_greedy B (C_l_cell := C_l_cell.mono (by decide))) (He.glo_ok X G (c.fact 27 (f := .glo "_law_greedy") rfl)) (F_l_greedy.bindsN fun _ _ _ _ _ _ us hl => match us, hl with | [_, _, _], _ => rfl)
  have C_l_splits : Cal P w K mg base 2 "_law_splits" 4 (SpN K pre_l_splits) := cal_of (st := s_l_splits) F_l_splits (ok_l_splits (k := 1) F_l_splits B (C_l_cell := C_l_cell.mono (by decide)) (C_l_split := C_l_split.mono (by decide))) (He.glo_ok X G (c.fact 26 (f := .glo "_law_splits") rfl)) (F_l_splits.bindsN fun _ _ _ _ _ _ us hl => match us, hl with | [_, _, _, _], _ => rfl)
  have C_l_some_parting : Cal P w K mg base 3 "_law_some_parting" 2 (SpN K pre_l_some_parting) := cal_of (st := s_l_some_parting) F_l_some_parting (ok_l_some_parting (k := 2) F_l_some_parting B (C_l_cell := C_l_cell.mono (by decide)) (C_l_crooked := C_l_crooked.mono (by decide)) (C_l_greedy := C_l_greedy.mono (by decide)) (C_l_splits := C_l_splits.mono (by decide))) (He.glo_ok X G (c.fact 29 (f := .glo "_law_some_parting") rfl)) (F_l_some_parting.bindsN fun _ _ _ _ _ _ us hl => match us, hl with | [_, _], _ => rfl)
  have C_l_is_number : Cal P w K mg base 1 "_law_is_number" 1 (SpD K pre_l_is_number) := cal_of (st := s_l_is_number) F_l_is_number (ok_l_is_number (k := 0) F_l_is_number B ) (He.glo_ok X G (c.fact 17 (f := .glo "_law_is_number") rfl)) (F_l_is_number.bindsN fun _ _ _ _ _ _ us hl => match us, hl with | [_], _ => rfl)
  have C_l_is_pair : Cal P w K mg base 2 "_law_is_pair" 1 (SpD K pre_l_is_pair) := cal_of (st := s_l_is_pair) F_l_is_pair (ok_l_is_pair (k := 1) F_l_is_pair B (C_l_is_number := C_l_is_number.mono (by decide))) (He.glo_ok X G (c.fact 19 (f := .glo "_law_is_pair") rfl)) (F_l_is_pair.bindsN fun _ _ _ _ _ _ us hl => match us, hl with | [_], _ => rfl)
  have C_l_is_class : Cal P w K mg base 3 "_law_is_class" 1 (SpD K pre_l_is_class) := cal_of (st := s_l_is_class) F_l_is_class (ok_l_is_class (k := 2) F_l_is_class B (C_l_is_pair := C_l_is_pair.mono (by decide))) (He.glo_ok X G (c.fact 20 (f := .glo "_law_is_class") rfl)) (F_l_is_class.bindsN fun _ _ _ _ _ _ us hl => match us, hl with | [_], _ => rfl)
  have C_l_is_classes : Cal P w K mg base 4 "_law_is_classes" 1 (SpD K pre_l_is_classes) := cal_of (st := s_l_is_classes) F_l_is_classes (ok_l_is_classes (k := 3) F_l_is_classes B (C_l_is_class := C_l_is_class.mono (by decide))) (He.glo_ok X G (c.fact 21 (f := .glo "_law_is_classes") rfl)) (F_l_is_classes.bindsN fun _ _ _ _ _ _ us hl => match us, hl with | [_], _ => rfl)
  have C_l_gcd : Cal P w K mg base 1 "_law_gcd" 2 (SpD K pre_l_gcd) := cal_of (st := s_l_gcd) F_l_gcd (ok_l_gcd (k := 0) F_l_gcd B ) (He.glo_ok X G (c.fact 18 (f := .glo "_law_gcd") rfl)) (F_l_gcd.bindsN fun _ _ _ _ _ _ us hl => match us, hl with | [_, _], _ => rfl)
  have C_l_meets : Cal P w K mg base 2 "_law_meets" 2 (SpD K pre_l_meets) := cal_of (st := s_l_meets) F_l_meets (ok_l_meets (k := 1) F_l_meets B (C_l_gcd := C_l_gcd.mono (by decide))) (He.glo_ok X G (c.fact 22 (f := .glo "_law_meets") rfl)) (F_l_meets.bindsN fun _ _ _ _ _ _ us hl => match us, hl with | [_, _], _ => rfl)
  have C_l_round : Cal P w K mg base 2 "_law_round" 1 (SpD K pre_l_round) := cal_of (st := s_l_round) F_l_round (ok_l_round (k := 1) F_l_round B (C_l_gcd := C_l_gcd.mono (by decide))) (He.glo_ok X G (c.fact 23 (f := .glo "_law_round") rfl)) (F_l_round.bindsN fun _ _ _ _ _ _ us hl => match us, hl with | [_], _ => rfl)
  have C_l_is_parting : Cal P w K mg base 5 "_law_is_parting" 1 (SpD K pre_l_is_parting) := cal_of (st := s_l_is_parting) F_l_is_parting (ok_l_is_parting (k := 4) F_l_is_parting B (C_l_is_classes := C_l_is_classes.mono (by decide)) (C_l_meets := C_l_meets.mono (by decide)) (C_l_round := C_l_round.mono (by decide))) (He.glo_ok X G (c.fact 24 (f := .glo "_law_is_parting") rfl)) (F_l_is_parting.bindsN fun _ _ _ _ _ _ us hl => match us, hl with | [_], _ => rfl)
  have C_p_greatest_period : Cal P w K mg base 1 "greatest_period" 1 (SpD K pre_p_greatest_period) := cal_of (st := s_p_greatest_period) F_p_greatest_period (ok_p_greatest_period (k := 0) F_p_greatest_period B ) (He.glo_ok X G (c.fact 14 (f := .glo "greatest_period") rfl)) (F_p_greatest_period.bindsN fun _ _ _ _ _ _ us hl => match us, hl with | [_], _ => rfl)
  have C_p_common_divisor : Cal P w K mg base 1 "common_divisor" 2 (SpD K pre_p_common_divisor) := cal_of (st := s_p_common_divisor) F_p_common_divisor (ok_p_common_divisor (k := 0) F_p_common_divisor B ) (He.glo_ok X G (c.fact 3 (f := .glo "common_divisor") rfl)) (F_p_common_divisor.bindsN fun _ _ _ _ _ _ us hl => match us, hl with | [_, _], _ => rfl)
  have C_p_do_meet : Cal P w K mg base 2 "do_meet" 2 (SpD K pre_p_do_meet) := cal_of (st := s_p_do_meet) F_p_do_meet (ok_p_do_meet (k := 1) F_p_do_meet B (C_p_common_divisor := C_p_common_divisor.mono (by decide))) (He.glo_ok X G (c.fact 6 (f := .glo "do_meet") rfl)) (F_p_do_meet.bindsN fun _ _ _ _ _ _ us hl => match us, hl with | [_, _], _ => rfl)
  have C_p_first_meeting : Cal P w K mg base 3 "first_meeting" 1 (SpD K pre_p_first_meeting) := cal_of (st := s_p_first_meeting) F_p_first_meeting (ok_p_first_meeting (k := 2) F_p_first_meeting B (C_p_do_meet := C_p_do_meet.mono (by decide))) (He.glo_ok X G (c.fact 7 (f := .glo "first_meeting") rfl)) (F_p_first_meeting.bindsN fun _ _ _ _ _ _ us hl => match us, hl with | [_], _ => rfl)
  have C_p_is_number : Cal P w K mg base 1 "is_number" 1 (SpD K pre_p_is_number) := cal_of (st := s_p_is_number) F_p_is_number (ok_p_is_number (k := 0) F_p_is_number B ) (He.glo_ok X G (c.fact 0 (f := .glo "is_number") rfl)) (F_p_is_number.bindsN fun _ _ _ _ _ _ us hl => match us, hl with | [_], _ => rfl)
  have C_p_is_number_tuple : Cal P w K mg base 2 "is_number_tuple" 2 (SpD K pre_p_is_number_tuple) := cal_of (st := s_p_is_number_tuple) F_p_is_number_tuple (ok_p_is_number_tuple (k := 1) F_p_is_number_tuple B (C_p_is_number := C_p_is_number.mono (by decide))) (He.glo_ok X G (c.fact 1 (f := .glo "is_number_tuple") rfl)) (F_p_is_number_tuple.bindsN fun _ _ _ _ _ _ us hl => match us, hl with | [_, _], _ => rfl)
  have C_p_is_pair : Cal P w K mg base 3 "is_pair" 1 (SpD K pre_p_is_pair) := cal_of (st := s_p_is_pair) F_p_is_pair (ok_p_is_pair (k := 2) F_p_is_pair B (C_p_is_number_tuple := C_p_is_number_tuple.mono (by decide))) (He.glo_ok X G (c.fact 2 (f := .glo "is_pair") rfl)) (F_p_is_pair.bindsN fun _ _ _ _ _ _ us hl => match us, hl with | [_], _ => rfl)
  have C_p_is_class : Cal P w K mg base 4 "is_class" 1 (SpD K pre_p_is_class) := cal_of (st := s_p_is_class) F_p_is_class (ok_p_is_class (k := 3) F_p_is_class B (C_p_is_pair := C_p_is_pair.mono (by decide))) (He.glo_ok X G (c.fact 4 (f := .glo "is_class") rfl)) (F_p_is_class.bindsN fun _ _ _ _ _ _ us hl => match us, hl with | [_], _ => rfl)
  have C_p_is_class_list : Cal P w K mg base 5 "is_class_list" 1 (SpD K pre_p_is_class_list) := cal_of (st := s_p_is_class_list) F_p_is_class_list (ok_p_is_class_list (k := 4) F_p_is_class_list B (C_p_is_class := C_p_is_class.mono (by decide))) (He.glo_ok X G (c.fact 5 (f := .glo "is_class_list") rfl)) (F_p_is_class_list.bindsN fun _ _ _ _ _ _ us hl => match us, hl with | [_], _ => rfl)
  have C_p_common_round : Cal P w K mg base 2 "common_round" 1 (SpD K pre_p_common_round) := cal_of (st := s_p_common_round) F_p_common_round (ok_p_common_round (k := 1) F_p_common_round B (C_p_common_divisor := C_p_common_divisor.mono (by decide))) (He.glo_ok X G (c.fact 8 (f := .glo "common_round") rfl)) (F_p_common_round.bindsN fun _ _ _ _ _ _ us hl => match us, hl with | [_], _ => rfl)
  have C_p_shares_fill : Cal P w K mg base 3 "shares_fill" 1 (SpD K pre_p_shares_fill) := cal_of (st := s_p_shares_fill) F_p_shares_fill (ok_p_shares_fill (k := 2) F_p_shares_fill B (C_p_common_round := C_p_common_round.mono (by decide))) (He.glo_ok X G (c.fact 9 (f := .glo "shares_fill") rfl)) (F_p_shares_fill.bindsN fun _ _ _ _ _ _ us hl => match us, hl with | [_], _ => rfl)
  have C_p_is_parting : Cal P w K mg base 6 "is_parting" 1 (SpD K pre_p_is_parting) := cal_of (st := s_p_is_parting) F_p_is_parting (ok_p_is_parting (k := 5) F_p_is_parting B (C_p_first_meeting := C_p_first_meeting.mono (by decide)) (C_p_is_class_list := C_p_is_class_list.mono (by decide)) (C_p_shares_fill := C_p_shares_fill.mono (by decide))) (He.glo_ok X G (c.fact 13 (f := .glo "is_parting") rfl)) (F_p_is_parting.bindsN fun _ _ _ _ _ _ us hl => match us, hl with | [_], _ => rfl)
  have C_l_told : Cal P w K mg base 7 "_law_told" 1 (SpD K pre_l_told) := cal_of (st := s_l_told) F_l_told (ok_l_told (k := 6) F_l_told B (C_l_great := C_l_great.mono (by decide)) (C_l_is_pair := C_l_is_pair.mono (by decide)) (C_l_is_parting := C_l_is_parting.mono (by decide)) (C_l_least_factor := C_l_least_factor.mono (by decide)) (C_p_greatest_period := C_p_greatest_period.mono (by decide)) (C_p_is_parting := C_p_is_parting.mono (by decide))) (He.glo_ok X G (c.fact 32 (f := .glo "_law_told") rfl)) (F_l_told.bindsN fun _ _ _ _ _ _ us hl => match us, hl with | [_], _ => rfl)
  have C_p_is_held : Cal P w K mg base 1 "is_held" 2 (SpD K pre_p_is_held) := cal_of (st := s_p_is_held) F_p_is_held (ok_p_is_held (k := 0) F_p_is_held B ) (He.glo_ok X G (c.fact 10 (f := .glo "is_held") rfl)) (F_p_is_held.bindsN fun _ _ _ _ _ _ us hl => match us, hl with | [_, _], _ => rfl)
  have C_p_first_left : Cal P w K mg base 2 "first_left" 1 (SpD K pre_p_first_left) := cal_of (st := s_p_first_left) F_p_first_left (ok_p_first_left (k := 1) F_p_first_left B (C_p_is_held := C_p_is_held.mono (by decide))) (He.glo_ok X G (c.fact 11 (f := .glo "first_left") rfl)) (F_p_first_left.bindsN fun _ _ _ _ _ _ us hl => match us, hl with | [_], _ => rfl)
  have C_p_parting_paper : Cal P w K mg base 4 "parting_paper" 1 (SpD K pre_p_parting_paper) := cal_of (st := s_p_parting_paper) F_p_parting_paper (ok_p_parting_paper (k := 3) F_p_parting_paper B (C_p_first_left := C_p_first_left.mono (by decide)) (C_p_first_meeting := C_p_first_meeting.mono (by decide)) (C_p_shares_fill := C_p_shares_fill.mono (by decide))) (He.glo_ok X G (c.fact 12 (f := .glo "parting_paper") rfl)) (F_p_parting_paper.bindsN fun _ _ _ _ _ _ us hl => match us, hl with | [_], _ => rfl)
  exact ok_law (k := 7) F_law B (C_l_all := C_l_all.mono (by decide)) (C_l_draws := C_l_draws.mono (by decide)) (C_l_fewer := C_l_fewer.mono (by decide)) (C_l_great := C_l_great.mono (by decide)) (C_l_least_factor := C_l_least_factor.mono (by decide)) (C_l_lines := C_l_lines.mono (by decide)) (C_l_some_parting := C_l_some_parting.mono (by decide)) (C_l_split := C_l_split.mono (by decide)) (C_l_told := C_l_told.mono (by decide)) (C_p_is_parting := C_p_is_parting.mono (by decide)) (C_p_parting_paper := C_p_parting_paper.mono (by decide))
end My

open PySem PySem.W PySem.Calls PyProof.Rows
theorem PySem.Challenge.cw_daysround_k66_whole_the_greatest_period_holds : PySem.Challenge.rw_daysround_k66_whole_the_greatest_period.Holds := by
  w_on; o_law
  refine HandSHeadRun.head_any (r := OpenLaw.row PySem.Challenge.rw_daysround_k66_whole_the_greatest_period) (q := view (OpenLaw.row PySem.Challenge.rw_daysround_k66_whole_the_greatest_period).prog [40]) (H := My.hk) (ob := My.ob) (M := 2000) (loose := My.loose) (d := HandSHeadRun.topDef (OpenLaw.row PySem.Challenge.rw_daysround_k66_whole_the_greatest_period).prog 40) (kwd := []) My.ob_eq
    (by kernel_rfl) (fun s => by kernel_rfl) My.run (by kernel_rfl) (by kernel_rfl) (by kernel_rfl) (by rfl) (by first | assumption | decide +kernel) (by decide +kernel) ⟨rfl, rfl, rfl, rfl, rfl, by decide +kernel⟩ ?hw ?hc
  case hw => w_witness2
  case hc =>
    refine L2.walk_ofE (l := PySem.Challenge.rw_daysround_k66_whole_the_greatest_period) (n := 63) (k := 8) (x := "script") (CX := L2.CX0) rfl (by decide) (by kernel_rfl) ⟨rfl, by decide, by decide⟩ ?F (fun _ _ _ _ z => z)
    intro w mg fa h Y G hmg0
    obtain ⟨K, KX, c⟩ := Y
    have hmg : mg ("law" : PySem.Str) = some (.ref fa) := by
      have e : (HandSHeadRun.topDef (OpenLaw.row PySem.Challenge.rw_daysround_k66_whole_the_greatest_period).prog 40).name = ("law" : PySem.Str) := by kernel_rfl
      rw [← e]
      exact hmg0
    obtain ⟨fd, hb, hF⟩ := My.facts (P := (PySem.Challenge.rw_daysround_k66_whole_the_greatest_period).prog) (w := w) KX G hmg c
    exact ⟨K, fd, V3.SpN K My.pre_law, KX, hb, fun H a ns hl _ hS => V3.law_spN hS ⟨ns, rfl, hl, rfl⟩, hF⟩

