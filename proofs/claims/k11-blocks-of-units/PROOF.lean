import PyProof.Rows.All
import Wide.All
import OpenK.AllK
import Wide.FinOn
import KE.KStateDown
import HandS.ForMost
import HandS.Exc
import HandS.TryOnly
import HandS.ExcOwn
import HandS.WordsExc
import HandS.IsInst
import HandS.TupAny
import HandS.TupMul
import HandS.Style
import HandS.Zip
import HandS.Wide
import HandS.StrMore
import HandS.Strs
import HandS.Defaults
import HandS.Head0
import HandS.Head1
import HandS.Head2
import HandS.HeadEnd
import HandS.HeadHook1
import HandS.HeadHook2
import HandS.RaiseMore
import HandS.Text
import HandS.More
import HandS.CallSlots
import HandS.HeadWalk
import HandS.ExcIs
import HandS.Small
import PySem.Challenge.RW_joinmill_k11_blocks_of_units
set_option Elab.async false
set_option linter.all false
set_option maxRecDepth 100000
set_option maxHeartbeats 0
set_option autoImplicit false
/-! J1: data, stores, how they lie in the abstract heap; outcomes and their wishes. -/
namespace JM
open PySem PySem.Spec PyProof.Rows L2

/-- frozen data: nothing in it ever changes. ktup: a tuple of the module's own; scr: the script; dct: a dict that nobody changes any more -/
inductive F where
  | non | bl (b : Bool) | int (i : Int) | str (s : Str)
  | tup (l : List F) | ktup (l : List F) | lst (l : List F) | scr (l : List Int) | dct (l : List (Key × F))
/-- data: frozen, a place of the store, a tuple that holds places -/
inductive D where
  | f (x : F) | loc (n : Nat) | tup (l : List D)
/-- what stands in a store's place: nothing more, a list, a dict (keys ints and texts; tuples of them), an instance (its class by number, its fields in the order of the class's list) -/
inductive Cell where
  | dead | lst (l : List D) | dK (l : List (Key × D)) | dT (l : List (List Key × D)) | ins (c : Nat) (l : List D)
abbrev Sto := List Cell
/-- the places' addresses; addresses of others' places, that stay as they are -/
structure Ro where
  pl : List (Option Addr) := []
  hd : List Addr := []
def Ro.no (ρ : Ro) (a : Addr) : Prop := some a ∉ ρ.pl ∧ a ∉ ρ.hd
def Ro.add (ρ : Ro) (p : Addr) : Ro := { ρ with pl := ρ.pl ++ [some p] }
def Ro.del (ρ : Ro) (n : Nat) : Ro := { ρ with pl := ρ.pl.set n none }

/-- a tuple, a list of the written part -/
def KT (K : PySem.W.Frag) (a : Addr) (xs : List V) : Prop :=
  ∃ (o : Obj) (its : Array Value) (n : Nat), K.lookup a = some o ∧ o.cls = .type "tuple" ∧ o.data = .seq its n ∧ its.size ≤ sizeLine ∧ Vals xs its.toList
def KL (K : PySem.W.Frag) (a : Addr) (xs : List V) : Prop :=
  ∃ (o : Obj) (its : Array Value) (n : Nat), K.lookup a = some o ∧ o.cls = .type "list" ∧ o.dict = none ∧ o.data = .seq its n ∧ its.size ≤ sizeLine ∧ Vals xs its.toList

mutual
/-- v is the frozen datum d, in the heap H, the store's places at ρ -/
def VF (K : PySem.W.Frag) (ρ : Ro) (H : Hp) : F → V → Prop
  | .non, v => v = .non
  | .bl b, v => v = .bl b
  | .int i, v => v = .int i
  | .str s, v => v = .str s ∧ s.length ≤ sizeLine ∧ PyData.strOk s = true
  | .tup l, v => ∃ a xs, v = .ref a ∧ (H a = some (.tup xs) ∧ ρ.no a) ∧ l.length ≤ sizeLine ∧ VFs K ρ H l xs
  | .ktup l, v => ∃ a xs, v = .ref a ∧ KT K a xs ∧ l.length ≤ sizeLine ∧ VFs K ρ H l xs
  | .lst l, v => ∃ a xs, v = .ref a ∧ (H a = some (.lst xs) ∧ ρ.no a) ∧ l.length ≤ sizeLine ∧ VFs K ρ H l xs
  | .scr l, v => ∃ a, v = .ref a ∧ ((Rd H a (.lst (l.map V.int)) ∧ ρ.no a) ∨ KL K a (l.map V.int)) ∧ l.length ≤ sizeLine
  | .dct l, v => ∃ a xs, v = .ref a ∧ ((∃ od, H a = some (.frz od (.dK xs))) ∧ ρ.no a) ∧ l.length ≤ sizeLine ∧ VFk K ρ H l xs
def VFs (K : PySem.W.Frag) (ρ : Ro) (H : Hp) : List F → List V → Prop
  | [], vs => vs = []
  | d :: ds, vs => ∃ v r, vs = v :: r ∧ VF K ρ H d v ∧ VFs K ρ H ds r
def VFk (K : PySem.W.Frag) (ρ : Ro) (H : Hp) : List (Key × F) → List (Key × V) → Prop
  | [], vs => vs = []
  | (k, d) :: ds, vs => ∃ v r, vs = (k, v) :: r ∧ VF K ρ H d v ∧ VFk K ρ H ds r
end
theorem VFs_iff {K : PySem.W.Frag} {ρ : Ro} {H : Hp} : ∀ {l : List F} {vs : List V}, VFs K ρ H l vs ↔ Paired (VF K ρ H) l vs
  | [], vs => by
    simp only [VFs]
    constructor
    · rintro rfl; exact .nil
    · intro h; cases h; rfl
  | d :: ds, vs => by
    simp only [VFs]
    constructor
    · rintro ⟨v, r, rfl, h1, h2⟩; exact .cons h1 (VFs_iff.mp h2)
    · intro h
      cases h with
      | cons h1 h2 => exact ⟨_, _, rfl, h1, VFs_iff.mpr h2⟩
abbrev KVR {α κ : Type} (r : α → V → Prop) : List (κ × α) → List (κ × V) → Prop := Paired fun (p : κ × α) (q : κ × V) => p.1 = q.1 ∧ r p.2 q.2
theorem VFk_iff {K : PySem.W.Frag} {ρ : Ro} {H : Hp} : ∀ {l : List (Key × F)} {vs : List (Key × V)}, VFk K ρ H l vs ↔ KVR (VF K ρ H) l vs
  | [], vs => by
    simp only [VFk]
    constructor
    · rintro rfl; exact .nil
    · intro h; cases h; rfl
  | (k, d) :: ds, vs => by
    simp only [VFk]
    constructor
    · rintro ⟨v, r, rfl, h1, h2⟩; exact .cons ⟨rfl, h1⟩ (VFk_iff.mp h2)
    · intro h
      cases h with
      | @cons _ q _ _ h1 h2 =>
        obtain ⟨k', v⟩ := q
        obtain ⟨e, h1⟩ := h1
        simp only at e h1
        subst e
        exact ⟨_, _, rfl, h1, VFk_iff.mpr h2⟩
mutual
def VR (K : PySem.W.Frag) (ρ : Ro) (H : Hp) : D → V → Prop
  | .f x, v => VF K ρ H x v
  | .loc n, v => ρ.pl[n]? = some none ∨ ∃ a, ρ.pl[n]? = some (some a) ∧ v = .ref a
  | .tup l, v => ∃ a xs, v = .ref a ∧ (H a = some (.tup xs) ∧ ρ.no a) ∧ l.length ≤ sizeLine ∧ VRs K ρ H l xs
def VRs (K : PySem.W.Frag) (ρ : Ro) (H : Hp) : List D → List V → Prop
  | [], vs => vs = []
  | d :: ds, vs => ∃ v r, vs = v :: r ∧ VR K ρ H d v ∧ VRs K ρ H ds r
end
theorem VRs_iff {K : PySem.W.Frag} {ρ : Ro} {H : Hp} : ∀ {l : List D} {vs : List V}, VRs K ρ H l vs ↔ Paired (VR K ρ H) l vs
  | [], vs => by
    simp only [VRs]
    constructor
    · rintro rfl; exact .nil
    · intro h; cases h; rfl
  | d :: ds, vs => by
    simp only [VRs]
    constructor
    · rintro ⟨v, r, rfl, h1, h2⟩; exact .cons h1 (VRs_iff.mp h2)
    · intro h
      cases h with
      | cons h1 h2 => exact ⟨_, _, rfl, h1, VRs_iff.mpr h2⟩
abbrev VL (K : PySem.W.Frag) (ρ : Ro) (H : Hp) : List D → List V → Prop := Paired (VR K ρ H)
abbrev FL (K : PySem.W.Frag) (ρ : Ro) (H : Hp) : List F → List V → Prop := Paired (VF K ρ H)
section inv
variable {K : PySem.W.Frag} {ρ : Ro} {H : Hp} {v : V}
theorem VF.ktup_iff {l : List F} : VF K ρ H (.ktup l) v ↔ ∃ a xs, v = .ref a ∧ KT K a xs ∧ l.length ≤ sizeLine ∧ FL K ρ H l xs := by simp only [VF, VFs_iff]
theorem VF.tup_iff {l : List F} : VF K ρ H (.tup l) v ↔ ∃ a xs, v = .ref a ∧ (H a = some (.tup xs) ∧ ρ.no a) ∧ l.length ≤ sizeLine ∧ FL K ρ H l xs := by simp only [VF, VFs_iff]
theorem VF.lst_iff {l : List F} : VF K ρ H (.lst l) v ↔ ∃ a xs, v = .ref a ∧ (H a = some (.lst xs) ∧ ρ.no a) ∧ l.length ≤ sizeLine ∧ FL K ρ H l xs := by simp only [VF, VFs_iff]
theorem VF.dct_iff {l : List (Key × F)} : VF K ρ H (.dct l) v ↔ ∃ a xs, v = .ref a ∧ ((∃ od, H a = some (.frz od (.dK xs))) ∧ ρ.no a) ∧ l.length ≤ sizeLine ∧ KVR (VF K ρ H) l xs := by simp only [VF, VFk_iff]
theorem VR.tup_iff {l : List D} : VR K ρ H (.tup l) v ↔ ∃ a xs, v = .ref a ∧ (H a = some (.tup xs) ∧ ρ.no a) ∧ l.length ≤ sizeLine ∧ VL K ρ H l xs := by simp only [VR, VRs_iff]
theorem VR.f_iff {x : F} : VR K ρ H (.f x) v ↔ VF K ρ H x v := by simp only [VR]
theorem VR.loc_iff {n : Nat} : VR K ρ H (.loc n) v ↔ (ρ.pl[n]? = some none ∨ ∃ a, ρ.pl[n]? = some (some a) ∧ v = .ref a) := by simp only [VR]
end inv

/-! ### lists side by side -/
section pair
variable {α β : Type} {r : α → β → Prop}
theorem pget : ∀ {l : List α} {m : List β} {i : Nat} {a : α}, Paired r l m → l[i]? = some a → ∃ b, m[i]? = some b ∧ r a b
  | _, _, _, _, .nil, e => by simp at e
  | _, _, 0, _, .cons h _, e => by simp at e; subst e; exact ⟨_, rfl, h⟩
  | _, _, i + 1, _, .cons _ t, e => by
    simp only [List.getElem?_cons_succ] at e ⊢
    exact pget t e
theorem pgetV : ∀ {l : List α} {m : List β} {i : Nat} {b : β}, Paired r l m → m[i]? = some b → ∃ a, l[i]? = some a ∧ r a b
  | _, _, _, _, .nil, e => by simp at e
  | _, _, 0, _, .cons h _, e => by simp at e; subst e; exact ⟨_, rfl, h⟩
  | _, _, i + 1, _, .cons _ t, e => by
    simp only [List.getElem?_cons_succ] at e ⊢
    exact pgetV t e
theorem papp : ∀ {l l' : List α} {m m' : List β}, Paired r l m → Paired r l' m' → Paired r (l ++ l') (m ++ m')
  | _, _, _, _, .nil, t => t
  | _, _, _, _, .cons h t, s => .cons h (papp t s)
theorem ptake : ∀ {l : List α} {m : List β} (n : Nat), Paired r l m → Paired r (l.take n) (m.take n)
  | _, _, 0, _ => by simp only [List.take_zero]; exact .nil
  | _, _, n + 1, .nil => .nil
  | _, _, n + 1, .cons h t => .cons h (ptake n t)
theorem pdrop : ∀ {l : List α} {m : List β} (n : Nat), Paired r l m → Paired r (l.drop n) (m.drop n)
  | _, _, 0, h => h
  | _, _, n + 1, .nil => .nil
  | _, _, n + 1, .cons _ t => pdrop n t
theorem prev : ∀ {l : List α} {m : List β}, Paired r l m → Paired r l.reverse m.reverse
  | _, _, .nil => .nil
  | _, _, .cons h t => by
    rw [List.reverse_cons, List.reverse_cons]
    exact (prev t).snoc h
theorem pset {a : α} {b : β} (h : r a b) : ∀ {l : List α} {m : List β} (i : Nat), Paired r l m → Paired r (l.set i a) (m.set i b)
  | _, _, _, .nil => .nil
  | _, _, 0, .cons _ t => .cons h t
  | _, _, i + 1, .cons k t => .cons k (pset h i t)
theorem pdropLast : ∀ {l : List α} {m : List β}, Paired r l m → Paired r l.dropLast m.dropLast
  | _, _, .nil => .nil
  | _, _, .cons _ .nil => .nil
  | _, _, .cons h (.cons k t) => .cons h (pdropLast (.cons k t))
theorem pmap {γ : Type} {q : γ → β → Prop} {f : γ → α} (h : ∀ c b, q c b → r (f c) b) : ∀ {l : List γ} {m : List β}, Paired q l m → Paired r (l.map f) m
  | _, _, .nil => .nil
  | _, _, .cons k t => .cons (h _ _ k) (pmap h t)
theorem prep {l : List α} {m : List β} (h : Paired r l m) : ∀ n : Nat, Paired r (List.replicate n l).flatten (List.replicate n m).flatten
  | 0 => .nil
  | n + 1 => by
    rw [List.replicate_succ, List.replicate_succ, List.flatten_cons, List.flatten_cons]
    exact papp h (prep h n)
end pair
section lists
variable {K : PySem.W.Frag} {ρ : Ro} {H : Hp}
theorem FL.toVL {l : List F} {xs : List V} (h : FL K ρ H l xs) : VL K ρ H (l.map D.f) xs := pmap (fun _ _ k => VR.f_iff.mpr k) h
theorem FL.ints : ∀ {l : List Int}, FL K ρ H (l.map F.int) (l.map V.int)
  | [] => .nil
  | i :: l => .cons (by simp only [VF]) FL.ints
end lists

/-- a later state: places kept (or given up), new ones were free, what is no place is kept -/
structure Ex (ρ : Ro) (H : Hp) (ρ' : Ro) (H' : Hp) : Prop where
  len : ρ.pl.length ≤ ρ'.pl.length
  ent : ∀ (n : Nat), n < ρ.pl.length → ρ'.pl[n]? = ρ.pl[n]? ∨ ρ'.pl[n]? = some none
  new : ∀ a, some a ∈ ρ'.pl → some a ∈ ρ.pl ∨ H a = none
  keep : ∀ a o, H a = some o → some a ∉ ρ.pl → H' a = some o
  hd : ∀ a, a ∈ ρ'.hd → a ∈ ρ.hd ∨ H a = none
  hk : ∀ a, a ∈ ρ.hd → a ∈ ρ'.hd
  dom : ∀ a o, H a = some o → ∃ u, H' a = some u
theorem Ex.refl {ρ : Ro} {H : Hp} : Ex ρ H ρ H := ⟨Nat.le_refl _, fun _ _ => .inl rfl, fun _ h => .inl h, fun _ _ h _ => h, fun _ h => .inl h, fun _ h => h, fun _ o h => ⟨o, h⟩⟩
theorem Ex.trans {ρ ρ1 ρ2 : Ro} {H H1 H2 : Hp} (a : Ex ρ H ρ1 H1) (b : Ex ρ1 H1 ρ2 H2) : Ex ρ H ρ2 H2 where
  len := Nat.le_trans a.len b.len
  ent := fun n h => by
    rcases b.ent n (Nat.lt_of_lt_of_le h a.len) with e | e
    · rcases a.ent n h with e1 | e1
      · exact .inl (e.trans e1)
      · exact .inr (e.trans e1)
    · exact .inr e
  new := fun x h => by
    rcases b.new x h with h | h
    · exact a.new x h
    · by_cases hx : some x ∈ ρ.pl
      · exact .inl hx
      · right
        cases q : H x with
        | none => rfl
        | some o => rw [a.keep x o q hx] at h; cases h
  keep := fun x o h hx => b.keep x o (a.keep x o h hx) fun z => by
    rcases a.new x z with z | z
    · exact hx z
    · rw [h] at z; cases z
  hd := fun x h => by
    rcases b.hd x h with h | h
    · exact a.hd x h
    · right
      cases q : H x with
      | none => rfl
      | some o => obtain ⟨u, z⟩ := a.dom x o q; rw [h] at z; cases z
  hk := fun x h => b.hk x (a.hk x h)
  dom := fun x o h => by obtain ⟨u, z⟩ := a.dom x o h; exact b.dom x u z

theorem Ex.notin {ρ ρ' : Ro} {H H' : Hp} (e : Ex ρ H ρ' H') {a : Addr} {o : HO} (h : H a = some o) (n : ρ.no a) : ρ'.no a := by
  refine ⟨fun z => ?_, fun z => ?_⟩
  · rcases e.new a z with z | z
    · exact n.1 z
    · rw [h] at z; cases z
  · rcases e.hd a z with z | z
    · exact n.2 z
    · rw [h] at z; cases z
theorem Ex.rd {ρ ρ' : Ro} {H H' : Hp} (e : Ex ρ H ρ' H') {a : Addr} {o : HO} (h : Rd H a o) (n : ρ.no a) : Rd H' a o ∧ ρ'.no a := by
  rcases h with h | ⟨u, h⟩
  · exact ⟨.inl (e.keep _ _ h n.1), e.notin h n⟩
  · exact ⟨.inr ⟨u, e.keep _ _ h n.1⟩, e.notin h n⟩

mutual
theorem VF.mono {K : PySem.W.Frag} {ρ ρ' : Ro} {H H' : Hp} (e : Ex ρ H ρ' H') : ∀ {d : F} {v : V}, VF K ρ H d v → VF K ρ' H' d v
  | .non, _, h => by simpa only [VF] using h
  | .bl _, _, h => by simpa only [VF] using h
  | .int _, _, h => by simpa only [VF] using h
  | .str _, _, h => by simpa only [VF] using h
  | .tup l, v, h => by
    simp only [VF] at h ⊢
    obtain ⟨a, xs, hv, ⟨hr, n⟩, hl, hs⟩ := h
    exact ⟨a, xs, hv, ⟨e.keep _ _ hr n.1, e.notin hr n⟩, hl, VFs.mono e hs⟩
  | .ktup l, v, h => by
    simp only [VF] at h ⊢
    obtain ⟨a, xs, hv, hr, hl, hs⟩ := h
    exact ⟨a, xs, hv, hr, hl, VFs.mono e hs⟩
  | .lst l, v, h => by
    simp only [VF] at h ⊢
    obtain ⟨a, xs, hv, ⟨hr, n⟩, hl, hs⟩ := h
    exact ⟨a, xs, hv, ⟨e.keep _ _ hr n.1, e.notin hr n⟩, hl, VFs.mono e hs⟩
  | .scr l, v, h => by
    simp only [VF] at h ⊢
    obtain ⟨a, hv, hr, hl⟩ := h
    refine ⟨a, hv, ?_, hl⟩
    rcases hr with ⟨hr, n⟩ | hr
    · exact .inl (e.rd hr n)
    · exact .inr hr
  | .dct l, v, h => by
    simp only [VF] at h ⊢
    obtain ⟨a, xs, hv, ⟨⟨od, hr⟩, n⟩, hl, hs⟩ := h
    exact ⟨a, xs, hv, ⟨⟨od, e.keep _ _ hr n.1⟩, e.notin hr n⟩, hl, VFk.mono e hs⟩
theorem VFs.mono {K : PySem.W.Frag} {ρ ρ' : Ro} {H H' : Hp} (e : Ex ρ H ρ' H') : ∀ {d : List F} {v : List V}, VFs K ρ H d v → VFs K ρ' H' d v
  | [], _, h => by simpa only [VFs] using h
  | d :: ds, vs, h => by
    simp only [VFs] at h ⊢
    obtain ⟨v, r, hv, h1, h2⟩ := h
    exact ⟨v, r, hv, VF.mono e h1, VFs.mono e h2⟩
theorem VFk.mono {K : PySem.W.Frag} {ρ ρ' : Ro} {H H' : Hp} (e : Ex ρ H ρ' H') : ∀ {d : List (Key × F)} {v : List (Key × V)}, VFk K ρ H d v → VFk K ρ' H' d v
  | [], _, h => by simpa only [VFk] using h
  | (k, d) :: ds, vs, h => by
    simp only [VFk] at h ⊢
    obtain ⟨v, r, hv, h1, h2⟩ := h
    exact ⟨v, r, hv, VF.mono e h1, VFk.mono e h2⟩
end
mutual
theorem VR.mono {K : PySem.W.Frag} {ρ ρ' : Ro} {H H' : Hp} (e : Ex ρ H ρ' H') : ∀ {d : D} {v : V}, VR K ρ H d v → VR K ρ' H' d v
  | .f _, _, h => by
    simp only [VR] at h ⊢
    exact h.mono e
  | .tup l, v, h => by
    simp only [VR] at h ⊢
    obtain ⟨a, xs, hv, ⟨hr, n⟩, hl, hs⟩ := h
    exact ⟨a, xs, hv, ⟨e.keep _ _ hr n.1, e.notin hr n⟩, hl, VRs.mono e hs⟩
  | .loc n, v, h => by
    simp only [VR] at h ⊢
    have hn : n < ρ.pl.length := by
      rcases h with h | ⟨a, h, _⟩ <;> exact (List.getElem?_eq_some_iff.mp h).1
    rcases e.ent n hn with q | q
    · rw [q]; exact h
    · exact .inl q
theorem VRs.mono {K : PySem.W.Frag} {ρ ρ' : Ro} {H H' : Hp} (e : Ex ρ H ρ' H') : ∀ {d : List D} {v : List V}, VRs K ρ H d v → VRs K ρ' H' d v
  | [], _, h => by simpa only [VRs] using h
  | d :: ds, vs, h => by
    simp only [VRs] at h ⊢
    obtain ⟨v, r, hv, h1, h2⟩ := h
    exact ⟨v, r, hv, VR.mono e h1, VRs.mono e h2⟩
end
theorem FL.mono {K : PySem.W.Frag} {ρ ρ' : Ro} {H H' : Hp} {l : List F} {xs : List V} (h : FL K ρ H l xs) (e : Ex ρ H ρ' H') : FL K ρ' H' l xs := Paired.mapP h fun _ _ k => VF.mono e k
theorem VL.mono {K : PySem.W.Frag} {ρ ρ' : Ro} {H H' : Hp} {l : List D} {xs : List V} (h : VL K ρ H l xs) (e : Ex ρ H ρ' H') : VL K ρ' H' l xs := Paired.mapP h fun _ _ k => VR.mono e k
theorem KVR.mono {κ : Type} {K : PySem.W.Frag} {ρ ρ' : Ro} {H H' : Hp} {l : List (κ × D)} {xs : List (κ × V)} (h : KVR (VR K ρ H) l xs) (e : Ex ρ H ρ' H') : KVR (VR K ρ' H') l xs := Paired.mapP h fun _ _ k => ⟨k.1, VR.mono e k.2⟩

/-! ### outcomes -/
inductive R (α : Type) where
  | ok (a : α) (s : Sto) | exc (x : Nat) (s : Sto) | fail
def R.bind {α β : Type} : R α → (α → Sto → R β) → R β
  | .ok a s, f => f a s
  | .exc x s, _ => .exc x s
  | .fail, _ => .fail
@[simp] theorem R.bind_ok {α β : Type} (a : α) (s : Sto) (f : α → Sto → R β) : (R.ok a s).bind f = f a s := rfl
@[simp] theorem R.bind_exc {α β : Type} (x : Nat) (s : Sto) (f : α → Sto → R β) : (R.exc x s).bind f = .exc x s := rfl
@[simp] theorem R.bind_fail {α β : Type} (f : α → Sto → R β) : (R.fail : R α).bind f = .fail := rfl

/-- the written part and the classes' addresses -/
structure Lk where
  K : PySem.W.Frag
  cad : Nat → Addr
  cfs : Nat → List Str
  xad : Nat → Addr

def CellR (L : Lk) (ρ : Ro) (H : Hp) (a : Addr) : Cell → Prop
  | .dead => False
  | .lst l => ∃ xs, H a = some (.lst xs) ∧ VL L.K ρ H l xs
  | .dK l => ∃ xs, H a = some (.dK xs) ∧ KVR (VR L.K ρ H) l xs
  | .dT l => ∃ xs, H a = some (.dT xs) ∧ KVR (VR L.K ρ H) l xs
  | .ins c l => ∃ dx xs, H a = some (.ins (L.cad c) dx ((L.cfs c).zip xs)) ∧ VL L.K ρ H l xs ∧ l.length ≤ (L.cfs c).length
/-- the store lies at ρ -/
structure SR (L : Lk) (ρ : Ro) (s : Sto) (H : Hp) : Prop where
  len : ρ.pl.length = s.length
  cell : ∀ (n : Nat) (a : Addr) (c : Cell), ρ.pl[n]? = some (some a) → s[n]? = some c → CellR L ρ H a c
  gone : ∀ (n : Nat), ρ.pl[n]? = some none → s[n]? = some Cell.dead
  inj : ∀ (n m : Nat) (a : Addr), ρ.pl[n]? = some (some a) → ρ.pl[m]? = some (some a) → n = m
  hdom : ∀ a, a ∈ ρ.hd → ∃ o, H a = some o
  hpl : ∀ a, some a ∈ ρ.pl → a ∉ ρ.hd
theorem SR.dom {L : Lk} {ρ : Ro} {s : Sto} {H : Hp} (r : SR L ρ s H) {a : Addr} (h : some a ∈ ρ.pl) : ∃ o, H a = some o := by
  obtain ⟨n, hn⟩ := List.mem_iff_getElem?.mp h
  have hl : n < s.length := by rw [← r.len]; exact (List.getElem?_eq_some_iff.mp hn).1
  have hc : s[n]? = some s[n] := List.getElem?_eq_some_iff.mpr ⟨hl, rfl⟩
  have q := r.cell n a _ hn hc
  cases e : s[n] with
  | dead => rw [e] at q; exact q.elim
  | lst l => rw [e] at q; obtain ⟨xs, h, _⟩ := q; exact ⟨_, h⟩
  | dK l => rw [e] at q; obtain ⟨xs, h, _⟩ := q; exact ⟨_, h⟩
  | dT l => rw [e] at q; obtain ⟨xs, h, _⟩ := q; exact ⟨_, h⟩
  | ins c l => rw [e] at q; obtain ⟨dx, xs, h, _⟩ := q; exact ⟨_, h⟩
theorem SR.free {L : Lk} {ρ : Ro} {s : Sto} {H : Hp} (r : SR L ρ s H) {a : Addr} (h : H a = none) : ρ.no a := by
  refine ⟨fun z => ?_, fun z => ?_⟩
  · obtain ⟨o, e⟩ := r.dom z
    rw [h] at e; cases e
  · obtain ⟨o, e⟩ := r.hdom a z
    rw [h] at e; cases e
theorem CellR.mono {L : Lk} {ρ ρ' : Ro} {H H' : Hp} {a : Addr} {c : Cell} (e : Ex ρ H ρ' H') (hk : ∀ o, H a = some o → H' a = some o) (h : CellR L ρ H a c) : CellR L ρ' H' a c := by
  cases c with
  | dead => exact h
  | lst l => obtain ⟨xs, h, q⟩ := h; exact ⟨xs, hk _ h, VL.mono q e⟩
  | dK l => obtain ⟨xs, h, q⟩ := h; exact ⟨xs, hk _ h, KVR.mono q e⟩
  | dT l => obtain ⟨xs, h, q⟩ := h; exact ⟨xs, hk _ h, KVR.mono q e⟩
  | ins c l => obtain ⟨dx, xs, h, q, z⟩ := h; exact ⟨dx, xs, hk _ h, VL.mono q e, z⟩

/-- a new object that is no place -/
theorem Ex.fresh {L : Lk} {ρ : Ro} {s : Sto} {H : Hp} (r : SR L ρ s H) {p : Addr} {o : HO} (hp : H p = none) : Ex ρ H ρ (upd H p o) :=
  ⟨Nat.le_refl _, fun _ _ => .inl rfl, fun _ h => .inl h, fun a u h _ => by rw [upd_ne (ne_of_none h hp)]; exact h, fun _ h => .inl h, fun _ h => h, fun a u h => ⟨u, by rw [upd_ne (ne_of_none h hp)]; exact h⟩⟩
theorem hdom_upd {ρ : Ro} {H : Hp} {p : Addr} {o : HO} (r : ∀ a, a ∈ ρ.hd → ∃ o, H a = some o) : ∀ a, a ∈ ρ.hd → ∃ u, (upd H p o) a = some u := fun a h => by
  by_cases e : a = p
  · subst e; exact ⟨o, upd_same⟩
  · rw [upd_ne e]; exact r a h
theorem SR.fresh {L : Lk} {ρ : Ro} {s : Sto} {H : Hp} (r : SR L ρ s H) {p : Addr} {o : HO} (hp : H p = none) : SR L ρ s (upd H p o) :=
  ⟨r.len, fun n a c h1 h2 => (r.cell n a c h1 h2).mono (Ex.fresh r hp) fun u hu => by rw [upd_ne (ne_of_none hu hp)]; exact hu, r.gone, r.inj, hdom_upd r.hdom, r.hpl⟩
/-- an object that is there and no place becomes one (its heap may have been written ahead) -/
theorem Ex.adopt {ρ : Ro} {H H' : Hp} {p : Addr} (h0 : H p = none) (k : ∀ a o, H a = some o → H' a = some o) : Ex ρ H (ρ.add p) H' :=
  ⟨by simp [Ro.add], fun n h => .inl (by show (ρ.pl ++ [some p])[n]? = _; rw [List.getElem?_append_left h]), fun a h => by
    rcases List.mem_append.mp (show some a ∈ ρ.pl ++ [some p] from h) with h | h
    · exact .inl h
    · simp at h; subst h; exact .inr h0, fun a u h _ => k a u h, fun _ h => .inl h, fun _ h => h, fun a u h => ⟨u, k a u h⟩⟩
theorem SR.adopt {L : Lk} {ρ : Ro} {s : Sto} {H : Hp} (r : SR L ρ s H) {p : Addr} {c : Cell} (np : ρ.no p) (e : Ex ρ H (ρ.add p) H) (hc : CellR L (ρ.add p) H p c) : SR L (ρ.add p) (s ++ [c]) H := by
  have pa : (ρ.add p).pl = ρ.pl ++ [some p] := rfl
  refine ⟨by simp [pa, r.len], fun n a c' h1 h2 => ?_, fun n h => ?_, fun n m a h1 h2 => ?_, r.hdom, fun a h => ?_⟩
  · rw [pa] at h1
    by_cases hn : n < ρ.pl.length
    · rw [List.getElem?_append_left hn] at h1
      rw [List.getElem?_append_left (by rw [← r.len]; exact hn)] at h2
      exact (r.cell n a c' h1 h2).mono e fun u hu => hu
    · rw [List.getElem?_append_right (by omega)] at h1
      rw [List.getElem?_append_right (by rw [← r.len]; omega), ← r.len] at h2
      cases e : n - ρ.pl.length with
      | zero => rw [e] at h1 h2; simp at h1 h2; subst h1; subst h2; exact hc
      | succ k => rw [e] at h1; simp at h1
  · rw [pa] at h
    by_cases hn : n < ρ.pl.length
    · rw [List.getElem?_append_left hn] at h
      rw [List.getElem?_append_left (by rw [← r.len]; exact hn)]
      exact r.gone n h
    · rw [List.getElem?_append_right (by omega)] at h
      cases e : n - ρ.pl.length with
      | zero => rw [e] at h; simp at h
      | succ k => rw [e] at h; simp at h
  · have key : ∀ k : Nat, (ρ.add p).pl[k]? = some (some a) → (ρ.pl[k]? = some (some a)) ∨ (k = ρ.pl.length ∧ a = p) := fun k hk => by
      rw [pa] at hk
      by_cases hn : k < ρ.pl.length
      · rw [List.getElem?_append_left hn] at hk; exact .inl hk
      · rw [List.getElem?_append_right (by omega)] at hk
        cases e : k - ρ.pl.length with
        | zero => rw [e] at hk; simp at hk; exact .inr ⟨by omega, hk.symm⟩
        | succ j => rw [e] at hk; simp at hk
    rcases key n h1 with q1 | ⟨q1, e1⟩ <;> rcases key m h2 with q2 | ⟨q2, e2⟩
    · exact r.inj n m a q1 q2
    · subst e2; exact absurd (List.mem_of_getElem? q1) np.1
    · subst e1; exact absurd (List.mem_of_getElem? q2) np.1
    · omega
  · rw [pa] at h
    rcases List.mem_append.mp h with h | h
    · exact r.hpl a h
    · simp at h; subst h; exact np.2
/-- a new place -/
theorem Ex.push {L : Lk} {ρ : Ro} {s : Sto} {H : Hp} (r : SR L ρ s H) {p : Addr} {o : HO} (hp : H p = none) : Ex ρ H (ρ.add p) (upd H p o) :=
  Ex.adopt hp fun a u h => by rw [upd_ne (ne_of_none h hp)]; exact h
theorem Ex.addH {ρ : Ro} {H : Hp} {p : Addr} (e : Ex ρ H (ρ.add p) H) : Ex ρ H (ρ.add p) H := e
theorem SR.push {L : Lk} {ρ : Ro} {s : Sto} {H : Hp} (r : SR L ρ s H) {p : Addr} {o : HO} {c : Cell} (hp : H p = none) (hc : CellR L (ρ.add p) (upd H p o) p c) : SR L (ρ.add p) (s ++ [c]) (upd H p o) := by
  have pa : (ρ.add p).pl = ρ.pl ++ [some p] := rfl
  have np := r.free hp
  have e := Ex.push (o := o) r hp
  refine ⟨by simp [pa, r.len], fun n a c' h1 h2 => ?_, fun n h => ?_, fun n m a h1 h2 => ?_, hdom_upd r.hdom, fun a h => ?_⟩
  · rw [pa] at h1
    by_cases hn : n < ρ.pl.length
    · rw [List.getElem?_append_left hn] at h1
      rw [List.getElem?_append_left (by rw [← r.len]; exact hn)] at h2
      exact (r.cell n a c' h1 h2).mono e fun u hu => by rw [upd_ne (ne_of_none hu hp)]; exact hu
    · rw [List.getElem?_append_right (by omega)] at h1
      rw [List.getElem?_append_right (by rw [← r.len]; omega), ← r.len] at h2
      cases e : n - ρ.pl.length with
      | zero => rw [e] at h1 h2; simp at h1 h2; subst h1; subst h2; exact hc
      | succ k => rw [e] at h1; simp at h1
  · rw [pa] at h
    by_cases hn : n < ρ.pl.length
    · rw [List.getElem?_append_left hn] at h
      rw [List.getElem?_append_left (by rw [← r.len]; exact hn)]
      exact r.gone n h
    · rw [List.getElem?_append_right (by omega)] at h
      cases e : n - ρ.pl.length with
      | zero => rw [e] at h; simp at h
      | succ k => rw [e] at h; simp at h
  · have key : ∀ k : Nat, (ρ.add p).pl[k]? = some (some a) → (ρ.pl[k]? = some (some a)) ∨ (k = ρ.pl.length ∧ a = p) := fun k hk => by
      rw [pa] at hk
      by_cases hn : k < ρ.pl.length
      · rw [List.getElem?_append_left hn] at hk; exact .inl hk
      · rw [List.getElem?_append_right (by omega)] at hk
        cases e : k - ρ.pl.length with
        | zero => rw [e] at hk; simp at hk; exact .inr ⟨by omega, hk.symm⟩
        | succ j => rw [e] at hk; simp at hk
    rcases key n h1 with q1 | ⟨q1, e1⟩ <;> rcases key m h2 with q2 | ⟨q2, e2⟩
    · exact r.inj n m a q1 q2
    · subst e2; exact absurd (List.mem_of_getElem? q1) np.1
    · subst e1; exact absurd (List.mem_of_getElem? q2) np.1
    · omega
  · rw [pa] at h
    rcases List.mem_append.mp h with h | h
    · exact r.hpl a h
    · simp at h; subst h; exact np.2
/-- a place is written -/
theorem Ex.write {ρ : Ro} {H : Hp} {a : Addr} {o : HO} (h : some a ∈ ρ.pl) : Ex ρ H ρ (upd H a o) :=
  ⟨Nat.le_refl _, fun _ _ => .inl rfl, fun _ h => .inl h, fun b u hb nb => by rw [upd_ne (fun e => by subst e; exact nb h)]; exact hb, fun _ h => .inl h, fun _ h => h, fun b u hb => by
    by_cases e : b = a
    · subst e; exact ⟨o, upd_same⟩
    · exact ⟨u, by rw [upd_ne e]; exact hb⟩⟩
theorem SR.write {L : Lk} {ρ : Ro} {s : Sto} {H : Hp} (r : SR L ρ s H) {n : Nat} {a : Addr} {o : HO} {c : Cell} (hn : ρ.pl[n]? = some (some a)) (hc : CellR L ρ (upd H a o) a c) : SR L ρ (s.set n c) (upd H a o) := by
  refine ⟨by simp [r.len], fun m b c' h1 h2 => ?_, fun m h => ?_, r.inj, hdom_upd r.hdom, r.hpl⟩
  · by_cases e : n = m
    · subst e
      rw [hn] at h1; cases h1
      rw [List.getElem?_set_self (by rw [← r.len]; exact (List.getElem?_eq_some_iff.mp hn).1)] at h2
      cases h2
      exact hc
    · rw [List.getElem?_set_ne e] at h2
      have nb : b ≠ a := fun z => by subst z; exact e (r.inj n m b hn h1)
      exact (r.cell m b c' h1 h2).mono (Ex.write (List.mem_of_getElem? hn)) fun u hu => by rw [upd_ne nb]; exact hu
  · have e : n ≠ m := fun z => by subst z; rw [hn] at h; cases h
    rw [List.getElem?_set_ne e]
    exact r.gone m h
/-- a callee that has no places of its own yet: the caller's places stay as they are -/
def Ro.hide (ρ : Ro) : Ro := { pl := [], hd := ρ.pl.filterMap id ++ ρ.hd }
theorem Ro.hide_no {ρ : Ro} {a : Addr} : ρ.hide.no a ↔ ρ.no a := by
  unfold Ro.no Ro.hide
  simp only [List.not_mem_nil, not_false_eq_true, true_and, List.mem_append, List.mem_filterMap, id, not_or]
  constructor
  · rintro ⟨h1, h2⟩
    exact ⟨fun z => h1 ⟨_, z, rfl⟩, h2⟩
  · rintro ⟨h1, h2⟩
    refine ⟨?_, h2⟩
    rintro ⟨b, hb, e⟩
    subst e
    exact h1 hb
theorem SR.hide {L : Lk} {ρ : Ro} {s : Sto} {H : Hp} (r : SR L ρ s H) : SR L ρ.hide [] H :=
  ⟨rfl, fun n a c h => by simp [Ro.hide] at h, fun n h => by simp [Ro.hide] at h, fun n m a h => by simp [Ro.hide] at h, fun a h => by
    rcases List.mem_append.mp (show a ∈ ρ.pl.filterMap id ++ ρ.hd from h) with h | h
    · obtain ⟨b, hb, e⟩ := List.mem_filterMap.mp h
      simp only [id] at e; subst e
      exact r.dom hb
    · exact r.hdom a h, fun a h => by simp [Ro.hide] at h⟩
theorem SR.nil {L : Lk} {H : Hp} : SR L {} [] H := ⟨rfl, fun n a c h => by simp at h, fun n h => by simp at h, fun n m a h => by simp at h, fun a h => by simp at h, fun a h => by simp at h⟩
mutual
theorem VF.hide {K : PySem.W.Frag} {ρ ρ' : Ro} {H : Hp} (e : ∀ a, ρ.no a → ρ'.no a) : ∀ {d : F} {v : V}, VF K ρ H d v → VF K ρ' H d v
  | .non, _, h => by simpa only [VF] using h
  | .bl _, _, h => by simpa only [VF] using h
  | .int _, _, h => by simpa only [VF] using h
  | .str _, _, h => by simpa only [VF] using h
  | .tup l, v, h => by
    simp only [VF] at h ⊢
    obtain ⟨a, xs, hv, ⟨hr, n⟩, hl, hs⟩ := h
    exact ⟨a, xs, hv, ⟨hr, e a n⟩, hl, VFs.hide e hs⟩
  | .ktup l, v, h => by
    simp only [VF] at h ⊢
    obtain ⟨a, xs, hv, hr, hl, hs⟩ := h
    exact ⟨a, xs, hv, hr, hl, VFs.hide e hs⟩
  | .lst l, v, h => by
    simp only [VF] at h ⊢
    obtain ⟨a, xs, hv, ⟨hr, n⟩, hl, hs⟩ := h
    exact ⟨a, xs, hv, ⟨hr, e a n⟩, hl, VFs.hide e hs⟩
  | .scr l, v, h => by
    simp only [VF] at h ⊢
    obtain ⟨a, hv, hr, hl⟩ := h
    refine ⟨a, hv, ?_, hl⟩
    rcases hr with ⟨hr, n⟩ | hr
    · exact .inl ⟨hr, e a n⟩
    · exact .inr hr
  | .dct l, v, h => by
    simp only [VF] at h ⊢
    obtain ⟨a, xs, hv, ⟨hr, n⟩, hl, hs⟩ := h
    exact ⟨a, xs, hv, ⟨hr, e a n⟩, hl, VFk.hide e hs⟩
theorem VFs.hide {K : PySem.W.Frag} {ρ ρ' : Ro} {H : Hp} (e : ∀ a, ρ.no a → ρ'.no a) : ∀ {d : List F} {v : List V}, VFs K ρ H d v → VFs K ρ' H d v
  | [], _, h => by simpa only [VFs] using h
  | d :: ds, vs, h => by
    simp only [VFs] at h ⊢
    obtain ⟨v, r, hv, h1, h2⟩ := h
    exact ⟨v, r, hv, VF.hide e h1, VFs.hide e h2⟩
theorem VFk.hide {K : PySem.W.Frag} {ρ ρ' : Ro} {H : Hp} (e : ∀ a, ρ.no a → ρ'.no a) : ∀ {d : List (Key × F)} {v : List (Key × V)}, VFk K ρ H d v → VFk K ρ' H d v
  | [], _, h => by simpa only [VFk] using h
  | (k, d) :: ds, vs, h => by
    simp only [VFk] at h ⊢
    obtain ⟨v, r, hv, h1, h2⟩ := h
    exact ⟨v, r, hv, VF.hide e h1, VFk.hide e h2⟩
end
theorem FL.hide {K : PySem.W.Frag} {ρ ρ' : Ro} {H : Hp} (e : ∀ a, ρ.no a → ρ'.no a) {l : List F} {xs : List V} (h : FL K ρ H l xs) : FL K ρ' H l xs := Paired.mapP h fun _ _ k => VF.hide e k
/-- behind such a callee: the caller's places are as they were -/
theorem SR.back {L : Lk} {ρ ρ' : Ro} {s : Sto} {H H' : Hp} (r : SR L ρ s H) (e : Ex ρ.hide H ρ' H') : Ex ρ H ρ H' ∧ SR L ρ s H' ∧ (∀ a, ρ'.no a → ρ.no a) := by
  have k : ∀ a o, H a = some o → H' a = some o := fun a o h => e.keep a o h (by simp [Ro.hide])
  have ex : Ex ρ H ρ H' := ⟨Nat.le_refl _, fun _ _ => .inl rfl, fun _ h => .inl h, fun a o h _ => k a o h, fun _ h => .inl h, fun _ h => h, fun a o h => ⟨o, k a o h⟩⟩
  refine ⟨ex, ⟨r.len, fun n a c h1 h2 => (r.cell n a c h1 h2).mono ex (k a), r.gone, r.inj, fun a h => ?_, r.hpl⟩, fun a n => ?_⟩
  · obtain ⟨o, h⟩ := r.hdom a h
    exact ⟨o, k a o h⟩
  · have h2 : a ∉ ρ.hide.hd := fun z => n.2 (e.hk a z)
    exact Ro.hide_no.mp ⟨by simp [Ro.hide], h2⟩

/-! ### slots -/
abbrev Env' := List (Option D)
structure ER (K : PySem.W.Frag) (ρ : Ro) (H : Hp) (env : Env') (σ : L2.St) : Prop where
  len : env.length = σ.length
  get : ∀ (i : Nat) (d : D), env[i]? = some (some d) → ∃ v, σ[i]? = some (some v) ∧ VR K ρ H d v
theorem ER.mono {K : PySem.W.Frag} {ρ ρ' : Ro} {H H' : Hp} {env : Env'} {σ : L2.St} (r : ER K ρ H env σ) (e : Ex ρ H ρ' H') : ER K ρ' H' env σ :=
  ⟨r.len, fun i d h => let ⟨v, a, b⟩ := r.get i d h; ⟨v, a, b.mono e⟩⟩
theorem ER.set {K : PySem.W.Frag} {ρ : Ro} {H : Hp} {env : Env'} {σ : L2.St} (r : ER K ρ H env σ) {i : Nat} {d : D} {v : V} (h : VR K ρ H d v) : ER K ρ H (env.set i (some d)) (σ.set i (some v)) :=
  ⟨by simp [r.len], fun j x hx => by
    by_cases e : i = j
    · subst e
      by_cases hl : i < env.length
      · rw [List.getElem?_set_self hl] at hx; cases hx
        exact ⟨v, by rw [List.getElem?_set_self (by rw [← r.len]; exact hl)], h⟩
      · rw [List.getElem?_eq_none (by simpa using hl)] at hx; cases hx
    · rw [List.getElem?_set_ne e] at hx ⊢
      exact r.get j x hx⟩

/-! ### wishes about outcomes -/
/-- what is wanted of an outcome: rel ties the datum to the value -/
def Good {α β : Type} (L : Lk) (rel : Ro → Hp → α → β → Prop) (W : Nat → Hp → Prop) (ρ : Ro) (H : Hp) (Q : β → Hp → Prop) : R α → Prop
  | .ok d s' => ∀ ρ' H' v, Ex ρ H ρ' H' → SR L ρ' s' H' → rel ρ' H' d v → Q v H'
  | .exc x s' => ∀ ρ' H', Ex ρ H ρ' H' → SR L ρ' s' H' → W x H'
  | .fail => False
theorem Good.later {α β : Type} {L : Lk} {rel : Ro → Hp → α → β → Prop} {W : Nat → Hp → Prop} {ρ ρ1 : Ro} {H H1 : Hp} {Q : β → Hp → Prop} {r : R α} (g : Good L rel W ρ H Q r) (e : Ex ρ H ρ1 H1) : Good L rel W ρ1 H1 Q r := by
  cases r with
  | ok d s' => exact fun ρ' H' v x sr vr => g ρ' H' v (e.trans x) sr vr
  | exc x s' => exact fun ρ' H' x sr => g ρ' H' (e.trans x) sr
  | fail => exact g
theorem Good.imp {α β : Type} {L : Lk} {rel : Ro → Hp → α → β → Prop} {W : Nat → Hp → Prop} {ρ : Ro} {H : Hp} {Q Q' : β → Hp → Prop} {r : R α} (g : Good L rel W ρ H Q r) (h : ∀ v H', Q v H' → Q' v H') : Good L rel W ρ H Q' r := by
  cases r with
  | ok d s' => exact fun ρ' H' v x sr vr => h _ _ (g ρ' H' v x sr vr)
  | exc x s' => exact g
  | fail => exact g
/-- the first part's wish: what comes behind it is good -/
theorem Good.bind {α β γ δ : Type} {L : Lk} {rel : Ro → Hp → α → β → Prop} {rel' : Ro → Hp → γ → δ → Prop} {W : Nat → Hp → Prop} {ρ : Ro} {H : Hp} {Q : δ → Hp → Prop} {r : R α} {f : α → Sto → R γ} (g : Good L rel' W ρ H Q (r.bind f)) :
    Good L rel W ρ H (fun v H1 => ∃ ρ1 s1 d, Ex ρ H ρ1 H1 ∧ SR L ρ1 s1 H1 ∧ rel ρ1 H1 d v ∧ Good L rel' W ρ1 H1 Q (f d s1)) r := by
  cases r with
  | ok d s' => exact fun ρ' H' v x sr vr => ⟨ρ', s', d, x, sr, vr, Good.later g x⟩
  | exc x s' => exact g
  | fail => exact g
end JM

set_option autoImplicit false
/-! J2: what operators do to data, and that the model's operators do it. -/
namespace JM
open PySem PySem.Spec PyProof.Rows L2

section good
variable {α β : Type} {L : Lk} {rel : Ro → Hp → α → β → Prop} {W : Nat → Hp → Prop} {ρ : Ro} {H : Hp} {Q : β → Hp → Prop} {d : α} {v : β} {s s' : Sto} {p : Addr} {o : HO}
theorem Good.here (g : Good L rel W ρ H Q (.ok d s)) (sr : SR L ρ s H) (h : rel ρ H d v) : Q v H := g ρ H v Ex.refl sr h
theorem Good.new (g : Good L rel W ρ H Q (.ok d s)) (sr : SR L ρ s H) (hp : H p = none) (h : rel ρ (upd H p o) d v) : Q v (upd H p o) := g ρ _ v (Ex.fresh sr hp) (sr.fresh hp) h
theorem Good.pushed {c : Cell} (g : Good L rel W ρ H Q (.ok d (s ++ [c]))) (sr : SR L ρ s H) (hp : H p = none) (hc : CellR L (ρ.add p) (upd H p o) p c) (h : rel (ρ.add p) (upd H p o) d v) : Q v (upd H p o) :=
  g _ _ v (Ex.push sr hp) (sr.push hp hc) h
theorem Good.wrote {c : Cell} {n : Nat} {a : Addr} (g : Good L rel W ρ H Q (.ok d (s.set n c))) (sr : SR L ρ s H) (hn : ρ.pl[n]? = some (some a)) (hc : CellR L ρ (upd H a o) a c) (h : rel ρ (upd H a o) d v) : Q v (upd H a o) :=
  g _ _ v (Ex.write (List.mem_of_getElem? hn)) (sr.write hn hc) h
end good

/-! ### reading a datum's shape -/
section shape
variable {K : PySem.W.Frag} {ρ : Ro} {H : Hp} {v : V}
theorem VR.int {i : Int} (h : VR K ρ H (.f (.int i)) v) : v = .int i := by simpa only [VR, VF] using h
theorem VR.bl {b : Bool} (h : VR K ρ H (.f (.bl b)) v) : v = .bl b := by simpa only [VR, VF] using h
theorem VR.non (h : VR K ρ H (.f .non) v) : v = .non := by simpa only [VR, VF] using h
theorem VR.str {x : Str} (h : VR K ρ H (.f (.str x)) v) : v = .str x ∧ x.length ≤ sizeLine ∧ PyData.strOk x = true := by simpa only [VR, VF] using h
theorem vInt (i : Int) : VR K ρ H (.f (.int i)) (.int i) := by simp only [VR, VF]
theorem vBl (b : Bool) : VR K ρ H (.f (.bl b)) (.bl b) := by simp only [VR, VF]
theorem vNon : VR K ρ H (.f .non) .non := by simp only [VR, VF]
theorem vStr {x : Str} (h : x.length ≤ sizeLine) (k : PyData.strOk x = true) : VR K ρ H (.f (.str x)) (.str x) := by simp only [VR, VF]; exact ⟨trivial, h, k⟩
end shape

/-! ### new lists, tuples -/
def allF : List D → Option (List F)
  | [] => some []
  | .f x :: r => (allF r).map (x :: ·)
  | _ :: _ => none
@[simp] theorem allF_nil : allF [] = some [] := rfl
@[simp] theorem allF_cons (x : F) (r : List D) : allF (.f x :: r) = (allF r).map (x :: ·) := rfl
@[simp] theorem allF_map : ∀ l : List F, allF (l.map D.f) = some l
  | [] => rfl
  | x :: r => by rw [List.map_cons, allF_cons, allF_map r]; rfl
theorem allF_eq : ∀ {l : List D} {fs : List F}, allF l = some fs → l = fs.map D.f
  | [], fs, h => by cases h; rfl
  | .f x :: r, fs, h => by
    rw [allF_cons] at h
    cases e : allF r with
    | none => rw [e] at h; cases h
    | some gs => rw [e] at h; cases h; rw [List.map_cons, allF_eq e]
  | .loc n :: r, fs, h => by cases h
  | .tup l :: r, fs, h => by cases h
theorem VL.toFL {K : PySem.W.Frag} {ρ : Ro} {H : Hp} : ∀ {fs : List F} {xs : List V}, VL K ρ H (fs.map D.f) xs → FL K ρ H fs xs
  | [], _, h => by cases h; exact .nil
  | x :: r, _, h => by
    cases h with
    | cons h t => exact .cons (VR.f_iff.mp h) (VL.toFL t)
/-- a new list: frozen at once, or a place -/
def newL (m : Bool) (l : List D) (s : Sto) : R D :=
  if l.length ≤ sizeLine then (if m then .ok (.loc s.length) (s ++ [.lst l]) else match allF l with | some fs => .ok (.f (.lst fs)) s | none => .fail) else .fail
def newT (l : List D) (s : Sto) : R D :=
  if l.length ≤ sizeLine then (match allF l with | some fs => .ok (.f (.tup fs)) s | none => .ok (.tup l) s) else .fail
section newgood
variable {L : Lk} {W : Nat → Hp → Prop} {ρ : Ro} {H : Hp} {Q : V → Hp → Prop} {s : Sto} {l : List D} {xs : List V}
theorem newL_ok {m : Bool} (g : Good L (VR L.K) W ρ H Q (newL m l s)) (sr : SR L ρ s H) (p : VL L.K ρ H l xs) : xs.length ≤ sizeLine ∧ ∀ a, H a = none → Q (.ref a) (upd H a (.lst xs)) := by
  unfold newL at g
  split at g
  · rename_i hl
    refine ⟨by rw [← p.length]; exact hl, fun a ha => ?_⟩
    cases m with
    | true =>
      rw [if_pos rfl] at g
      refine g.pushed sr ha ⟨xs, upd_same, p.mono (Ex.push sr ha)⟩ (VR.loc_iff.mpr (.inr ⟨a, ?_, rfl⟩))
      show (ρ.pl ++ [some a])[s.length]? = _
      rw [List.getElem?_append_right (by rw [sr.len]; exact Nat.le_refl _), sr.len, Nat.sub_self]; rfl
    | false =>
      rw [if_neg Bool.false_ne_true] at g
      cases e : allF l with
      | none => rw [e] at g; exact g.elim
      | some fs =>
        rw [e] at g
        rw [allF_eq e] at p hl
        rw [List.length_map] at hl
        exact g.new sr ha (VR.f_iff.mpr (VF.lst_iff.mpr ⟨a, _, rfl, ⟨upd_same, sr.free ha⟩, hl, (VL.toFL p).mono (Ex.fresh sr ha)⟩))
  · exact g.elim
theorem newT_ok (g : Good L (VR L.K) W ρ H Q (newT l s)) (sr : SR L ρ s H) (p : VL L.K ρ H l xs) : xs.length ≤ sizeLine ∧ ∀ a, H a = none → Q (.ref a) (upd H a (.tup xs)) := by
  unfold newT at g
  split at g
  · rename_i hl
    refine ⟨by rw [← p.length]; exact hl, fun a ha => ?_⟩
    cases e : allF l with
    | none =>
      rw [e] at g
      exact g.new sr ha (VR.tup_iff.mpr ⟨a, _, rfl, ⟨upd_same, sr.free ha⟩, hl, p.mono (Ex.fresh sr ha)⟩)
    | some fs =>
      rw [e] at g
      rw [allF_eq e] at p hl
      rw [List.length_map] at hl
      exact g.new sr ha (VR.f_iff.mpr (VF.tup_iff.mpr ⟨a, _, rfl, ⟨upd_same, sr.free ha⟩, hl, (VL.toFL p).mono (Ex.fresh sr ha)⟩))
  · exact g.elim
end newgood
/-! ### what is read as a list, a tuple -/
def seqL (d : D) (s : Sto) : Option (List D) := match d with
  | .f (.lst l) => some (l.map .f)
  | .f (.scr l) => some (l.map fun i => .f (.int i))
  | .loc n => match s[n]? with | some (.lst l) => some l | _ => none
  | _ => none
def seqT (d : D) : Option (List D) := match d with
  | .f (.tup l) => some (l.map .f)
  | .f (.ktup l) => some (l.map .f)
  | .tup l => some l
  | _ => none
theorem VF.sqT {K : PySem.W.Frag} {ρ : Ro} {H : Hp} {a : Addr} {xs : List V} (h : H a = some (.tup xs) ∧ ρ.no a) : SqT K H a xs := .inl (.inl h.1)
theorem SR.at {L : Lk} {ρ : Ro} {H : Hp} {s : Sto} {n : Nat} {v : V} {c : Cell} (sr : SR L ρ s H) (h : VR L.K ρ H (.loc n) v) (e : s[n]? = some c) (hc : c ≠ .dead) : ∃ a, v = .ref a ∧ ρ.pl[n]? = some (some a) ∧ CellR L ρ H a c := by
  rcases VR.loc_iff.mp h with h | ⟨a, h, hv⟩
  · rw [sr.gone n h] at e; cases e; exact (hc rfl).elim
  · exact ⟨a, hv, h, sr.cell n a c h e⟩
theorem vIntsL {K : PySem.W.Frag} {ρ : Ro} {H : Hp} : ∀ l : List Int, VL K ρ H (l.map fun i => .f (.int i)) (l.map V.int)
  | [] => .nil
  | i :: l => .cons (vInt i) (vIntsL l)
theorem seqL_ok {L : Lk} {ρ : Ro} {H : Hp} {s : Sto} {d : D} {l : List D} {v : V} (e : seqL d s = some l) (sr : SR L ρ s H) (h : VR L.K ρ H d v) : ∃ a xs, v = .ref a ∧ SqL L.K H a xs ∧ VL L.K ρ H l xs := by
  unfold seqL at e
  split at e
  · cases e
    obtain ⟨a, xs, hv, ⟨h1, _⟩, _, p⟩ := VF.lst_iff.mp (VR.f_iff.mp h)
    exact ⟨a, xs, hv, .inl (.inl h1), p.toVL⟩
  · cases e
    have h := VR.f_iff.mp h
    simp only [VF] at h
    obtain ⟨a, hv, h1, _⟩ := h
    refine ⟨a, _, hv, ?_, vIntsL _⟩
    rcases h1 with ⟨h1, _⟩ | h1
    · exact .inl h1
    · exact .inr h1
  · split at e
    · rename_i hn
      cases e
      obtain ⟨a, hv, _, xs, h1, p⟩ := sr.at h hn (by intro z; cases z)
      exact ⟨a, xs, hv, .inl (.inl h1), p⟩
    · cases e
  · cases e
theorem seqT_ok {L : Lk} {ρ : Ro} {H : Hp} {d : D} {l : List D} {v : V} (e : seqT d = some l) (h : VR L.K ρ H d v) : ∃ a xs, v = .ref a ∧ SqT L.K H a xs ∧ VL L.K ρ H l xs ∧ l.length ≤ sizeLine := by
  unfold seqT at e
  split at e
  · cases e
    obtain ⟨a, xs, hv, h1, hl, p⟩ := VF.tup_iff.mp (VR.f_iff.mp h)
    exact ⟨a, xs, hv, VF.sqT h1, p.toVL, by rw [List.length_map]; exact hl⟩
  · cases e
    obtain ⟨a, xs, hv, h1, hl, p⟩ := VF.ktup_iff.mp (VR.f_iff.mp h)
    exact ⟨a, xs, hv, .inr h1, p.toVL, by rw [List.length_map]; exact hl⟩
  · cases e
    obtain ⟨a, xs, hv, ⟨h1, _⟩, hl, p⟩ := VR.tup_iff.mp h
    exact ⟨a, xs, hv, .inl (.inl h1), p, hl⟩
  · cases e

/-- an operator's reading: two data go in, what f tells of them comes out -/
def rO (L : Lk) (W : Nat → Hp → Prop) (f : D → D → Sto → R D) : R2 := fun x y H Q => ∃ ρ s d e, SR L ρ s H ∧ VR L.K ρ H d x ∧ VR L.K ρ H e y ∧ Good L (VR L.K) W ρ H Q (f d e s)

theorem strOk_app {x y : Str} (h : PyData.strOk x = true) (k : PyData.strOk y = true) : PyData.strOk (x ++ y) = true := by
  unfold PyData.strOk at *
  show (x.cps ++ y.cps).all _ = true
  rw [Array.all_append, h, k]; rfl
theorem len_app (x y : Str) : (x ++ y).length = x.length + y.length := by
  show (x.cps ++ y.cps).size = _
  rw [Array.size_append]; rfl

/-! ### + -/
def bAdd (m : Bool) : D → D → Sto → R D
  | .f (.int i), .f (.int j), s => .ok (.f (.int (i + j))) s
  | .f (.str x), .f (.str y), s => if x.length + y.length ≤ sizeLine then .ok (.f (.str (x ++ y))) s else .fail
  | .f (.lst x), .f (.lst y), s => newL m (x.map .f ++ y.map .f) s
  | .f (.tup x), .f (.tup y), s => if x.length + y.length ≤ sizeLine then .ok (.f (.tup (x ++ y))) s else .fail
  | _, _, _ => .fail

section ops
variable {X : Cx} {L : Lk} {W : Nat → Hp → Prop}
theorem op_bAdd (hK : X.K = L.K) (m : Bool) : OpR X (binaryOp .Add) (rO L W (bAdd m)) := by
  rintro pins s σ H x y v u Q I rx ry ⟨ρ, st, d, e, sr, hd, he, g⟩
  unfold bAdd at g
  split at g
  · obtain rfl := hd.int; obtain rfl := he.int
    exact op_add pins s σ H _ _ v u Q I rx ry ⟨_, _, rfl, rfl, g.here sr (vInt _)⟩
  · obtain ⟨rfl, l1, k1⟩ := hd.str; obtain ⟨rfl, l2, k2⟩ := he.str
    split at g
    · rename_i hl
      exact op_add_str pins s σ H _ _ v u Q I rx ry ⟨_, _, rfl, rfl, hl, g.here sr (vStr (by rw [len_app]; exact hl) (strOk_app k1 k2))⟩
    · exact g.elim
  · obtain ⟨a, xs, rfl, ⟨h1, n1⟩, _, p1⟩ := VF.lst_iff.mp (VR.f_iff.mp hd)
    obtain ⟨b, ys, rfl, ⟨h2, n2⟩, _, p2⟩ := VF.lst_iff.mp (VR.f_iff.mp he)
    obtain ⟨hl, q⟩ := newL_ok g sr (papp p1.toVL p2.toVL)
    rw [List.length_append] at hl
    exact op_cat pins s σ H _ _ v u Q I rx ry ⟨a, b, xs, ys, rfl, rfl, h1, h2, hl, q⟩
  · split at g
    · rename_i hl
      obtain ⟨a, xs, rfl, h1, _, p1⟩ := VF.tup_iff.mp (VR.f_iff.mp hd)
      obtain ⟨b, ys, rfl, h2, _, p2⟩ := VF.tup_iff.mp (VR.f_iff.mp he)
      have q1 : SqT X.K H a xs := by rw [hK]; exact VF.sqT h1
      have q2 : SqT X.K H b ys := by rw [hK]; exact VF.sqT h2
      refine op_catA pins s σ H _ _ v u Q I rx ry ⟨a, b, xs, ys, rfl, rfl, q1, q2, by rw [← p1.length, ← p2.length]; exact hl, ?_, ?_, ?_⟩
      · rintro rfl
        cases p1
        exact g.here sr he
      · rintro _ rfl
        cases p2
        rw [List.append_nil] at g
        exact g.here sr hd
      · intro _ _ p hp
        exact g.new sr hp (VR.f_iff.mpr (VF.tup_iff.mpr ⟨p, _, rfl, ⟨upd_same, sr.free hp⟩, by rw [List.length_append]; exact hl, FL.mono (papp p1 p2) (Ex.fresh sr hp)⟩))
    · exact g.elim
  · exact g.elim

/-! ### - * // % ** -/
def bSub : D → D → Sto → R D
  | .f (.int i), .f (.int j), s => .ok (.f (.int (i - j))) s
  | _, _, _ => .fail
theorem op_bSub : OpR X (binaryOp .Sub) (rO L W bSub) := by
  rintro pins s σ H x y v u Q I rx ry ⟨ρ, st, d, e, sr, hd, he, g⟩
  unfold bSub at g
  split at g
  · obtain rfl := hd.int; obtain rfl := he.int
    exact op_sub pins s σ H _ _ v u Q I rx ry ⟨_, _, rfl, rfl, g.here sr (vInt _)⟩
  · exact g.elim
def repS (x : Str) (n : Int) : Str := ⟨(List.replicate n.toNat x.cps.toList).flatten.toArray⟩
def bMul (m : Bool) : D → D → Sto → R D
  | .f (.int i), .f (.int j), s => if (-(2 ^ 64) < i ∧ i < 2 ^ 64) ∨ (-(2 ^ 64) < j ∧ j < 2 ^ 64) then .ok (.f (.int (i * j))) s else .fail
  | .f (.str x), .f (.int j), s => if 0 ≤ j ∧ j ≤ 10000 ∧ x.length ≤ 1000 then .ok (.f (.str (repS x j))) s else .fail
  | .f (.tup l), .f (.int j), s => if l ≠ [] ∧ 2 ≤ j ∧ j ≤ 1000 ∧ l.length ≤ 1000 then .ok (.f (.tup (List.replicate j.toNat l).flatten)) s else .fail
  | .f (.lst l), .f (.int j), s => if 0 ≤ j ∧ j ≤ 100000 ∧ l.length ≤ 100 then newL m ((List.replicate j.toNat (l.map .f)).flatten) s else .fail
  | _, _, _ => .fail
theorem foldl_app {α : Type} (x : Array α) : ∀ (n : Nat) (acc : Array α), ((List.replicate n x).foldl (· ++ ·) acc).toList = acc.toList ++ (List.replicate n x.toList).flatten
  | 0, acc => by simp
  | n + 1, acc => by
    rw [List.replicate_succ, List.replicate_succ, List.foldl_cons, foldl_app x n, List.flatten_cons, Array.toList_append, List.append_assoc]
theorem repS_eq (x : Str) (n : Int) : (⟨(List.replicate n.toNat x.cps).foldl (· ++ ·) #[]⟩ : Str) = repS x n := by
  unfold repS
  apply Str.ext'
  apply Array.toList_inj.mp
  rw [foldl_app]
  simp
theorem flat_len {α : Type} (l : List α) : ∀ n : Nat, (List.replicate n l).flatten.length = n * l.length
  | 0 => by simp
  | n + 1 => by rw [List.replicate_succ, List.flatten_cons, List.length_append, flat_len l n, Nat.succ_mul, Nat.add_comm]
theorem flat_bd {α : Type} {l : List α} {j : Int} {a b : Nat} (h : l.length ≤ a) (k : j ≤ (b : Int)) (z : b * a ≤ 16777216) : (List.replicate j.toNat l).flatten.length ≤ sizeLine := by
  rw [flat_len, sizeLine_eq]
  exact Nat.le_trans (Nat.mul_le_mul (by omega) h) z
theorem repS_len (x : Str) (n : Int) : (repS x n).length = n.toNat * x.length := by
  show (List.toArray _).size = _
  rw [List.size_toArray, flat_len, Array.length_toList]
  rfl
theorem repS_bd {x : Str} {j : Int} (h : 0 ≤ j ∧ j ≤ 10000 ∧ x.length ≤ 1000) : (repS x j).length ≤ sizeLine := by
  rw [repS_len, sizeLine_eq]
  have := Nat.mul_le_mul (show j.toNat ≤ 10000 by omega) h.2.2
  omega
theorem repS_ok {x : Str} (n : Int) (h : PyData.strOk x = true) : PyData.strOk (repS x n) = true := by
  unfold PyData.strOk at *
  rw [Array.all_eq_true_iff_forall_mem] at *
  intro c hc
  unfold repS at hc
  simp only [List.mem_toArray, List.mem_flatten, List.mem_replicate] at hc
  obtain ⟨l, ⟨_, rfl⟩, hc⟩ := hc
  exact h c (by simpa using hc)
theorem op_mul_str : OpR X (binaryOp .Mult) (fun x y H Q => ∃ i j, x = .str i ∧ y = .int j ∧ (0 ≤ j ∧ j ≤ 10000 ∧ i.length ≤ 1000) ∧ Q (.str (repS i j)) H) := by
  rintro pins s σ H x y v u Q I rx ry ⟨i, j, rfl, rfl, ⟨h0, h1, h2⟩, q⟩
  obtain ⟨t, rfl⟩ := rx
  obtain ⟨t', rfl⟩ := ry
  have hb : i.length * j.toNat ≤ 10000000 := by
    have : i.length * j.toNat ≤ 1000 * 10000 := Nat.mul_le_mul h2 (by omega)
    omega
  refine PySem.P.mul_str (by rw [decide_eq_false (by omega), decide_eq_false (by omega)]; rfl) (fun h3 _ => ?_) (fun _ _ => ?_) ?_
  · have : 1000 ≤ (2 ^ 63 - 1) / j := by
      rw [Int.le_ediv_iff_mul_le (by omega)]
      omega
    omega
  · unfold Builtin.Str.tooLong
    rw [sizeLine_eq]
    exact decide_eq_false (by omega)
  · by_cases h3 : j < 1
    · rw [if_pos h3]
      have e0 : j = 0 := by omega
      subst e0
      exact ⟨by decide, ⟨.str _, H, I.tok _, ⟨_, rfl⟩, q⟩⟩
    · rw [if_neg h3]
      by_cases h4 : (j == 1 || i.length == 0) = true
      · rw [if_pos h4]
        have e : repS i j = i := by
          rcases Bool.or_eq_true_iff.mp h4 with h4 | h4
          · have e1 : j = 1 := by simpa using h4
            subst e1
            apply Str.ext'; apply Array.toList_inj.mp; unfold repS; simp
          · have e1 : i.cps.size = 0 := by simpa [Str.length] using h4
            have e2 : i.cps = #[] := Array.eq_empty_of_size_eq_zero e1
            apply Str.ext'; apply Array.toList_inj.mp; unfold repS; rw [e2]; simp
        rw [e] at q
        exact ⟨.str _, H, I, ⟨_, rfl⟩, q⟩
      · rw [if_neg h4, repS_eq]
        exact ⟨by rw [repS_len, sizeLine_eq, Nat.mul_comm]; omega, ⟨.str _, H, I.tok _, ⟨_, rfl⟩, q⟩⟩
theorem op_bMul (hK : X.K = L.K) (m : Bool) : OpR X (binaryOp .Mult) (rO L W (bMul m)) := by
  rintro pins s σ H x y v u Q I rx ry ⟨ρ, st, d, e, sr, hd, he, g⟩
  unfold bMul at g
  split at g
  · obtain rfl := hd.int; obtain rfl := he.int
    split at g
    · rename_i h
      exact op_mul pins s σ H _ _ v u Q I rx ry ⟨_, _, rfl, rfl, h, g.here sr (vInt _)⟩
    · exact g.elim
  · obtain ⟨rfl, l1, k1⟩ := hd.str; obtain rfl := he.int
    split at g
    · rename_i h
      refine op_mul_str pins s σ H _ _ v u Q I rx ry ⟨_, _, rfl, rfl, h, g.here sr (vStr (repS_bd h) (repS_ok _ k1))⟩
    · exact g.elim
  · obtain rfl := he.int
    split at g
    · rename_i h
      obtain ⟨hne, h2, h3, hl⟩ := h
      obtain ⟨a, xs, rfl, h1, _, p1⟩ := VF.tup_iff.mp (VR.f_iff.mp hd)
      have q1 : SqT X.K H a xs := by rw [hK]; exact VF.sqT h1
      refine op_repT pins s σ H _ _ v u Q I rx ry ⟨a, _, xs, rfl, rfl, q1, ?_, h2, h3, by rw [← p1.length]; exact hl, fun p hp => g.new sr hp (VR.f_iff.mpr (VF.tup_iff.mpr ⟨p, _, rfl, ⟨upd_same, sr.free hp⟩, flat_bd hl h3 (by decide), (FL.mono (prep p1 _) (Ex.fresh sr hp))⟩))⟩
      rintro rfl; cases p1; exact hne rfl
    · exact g.elim
  · obtain rfl := he.int
    split at g
    · rename_i h
      obtain ⟨h2, h3, hl⟩ := h
      obtain ⟨a, xs, rfl, ⟨h1, _⟩, _, p1⟩ := VF.lst_iff.mp (VR.f_iff.mp hd)
      obtain ⟨_, q⟩ := newL_ok g sr (prep p1.toVL _)
      refine op_rep pins s σ H _ _ v u Q I rx ry ⟨a, _, xs, rfl, rfl, h1, by omega, by omega, ?_, q⟩
      have hx : xs.length ≤ 100 := by rw [← p1.length]; exact hl
      rw [Nat.mul_comm, ← flat_len]
      exact flat_bd hx h3 (by decide)
    · exact g.elim
  · exact g.elim
def bFdiv : D → D → Sto → R D
  | .f (.int i), .f (.int j), s => if j ≠ 0 ∧ j.natAbs < 1073741824 then .ok (.f (.int (i.fdiv j))) s else .fail
  | _, _, _ => .fail
theorem op_bFdiv : OpR X (binaryOp .FloorDiv) (rO L W bFdiv) := by
  rintro pins s σ H x y v u Q I rx ry ⟨ρ, st, d, e, sr, hd, he, g⟩
  unfold bFdiv at g
  split at g
  · obtain rfl := hd.int; obtain rfl := he.int
    split at g
    · rename_i h
      exact op_fdivN pins s σ H _ _ v u Q I rx ry ⟨_, _, rfl, rfl, h, g.here sr (vInt _)⟩
    · exact g.elim
  · exact g.elim
def bMod : D → D → Sto → R D
  | .f (.int i), .f (.int j), s => if j ≠ 0 then .ok (.f (.int (i.fmod j))) s else .fail
  | _, _, _ => .fail
theorem op_bMod : OpR X (binaryOp .Mod) (rO L W bMod) := by
  rintro pins s σ H x y v u Q I rx ry ⟨ρ, st, d, e, sr, hd, he, g⟩
  unfold bMod at g
  split at g
  · obtain rfl := hd.int; obtain rfl := he.int
    split at g
    · rename_i h
      exact op_modN pins s σ H _ _ v u Q I rx ry ⟨_, _, rfl, rfl, h, g.here sr (vInt _)⟩
    · exact g.elim
  · exact g.elim
def bPow : D → D → Sto → R D
  | .f (.int i), .f (.int j), s => if 0 ≤ j ∧ j ≤ 1000000 ∧ i.natAbs < 2 ^ 64 then .ok (.f (.int (i ^ j.toNat))) s else .fail
  | _, _, _ => .fail
theorem op_bPow : OpR X (binaryOp .Pow) (rO L W bPow) := by
  rintro pins s σ H x y v u Q I rx ry ⟨ρ, st, d, e, sr, hd, he, g⟩
  unfold bPow at g
  split at g
  · obtain rfl := hd.int; obtain rfl := he.int
    split at g
    · rename_i h
      exact op_pow pins s σ H _ _ v u Q I rx ry ⟨_, _, rfl, rfl, h, g.here sr (vInt _)⟩
    · exact g.elim
  · exact g.elim
end ops
end JM

set_option autoImplicit false
/-! J3: comparisons, tests of kind, subscripts, slices. -/
namespace JM
open PySem PySem.Spec PyProof.Rows L2

/-! ### frozen data as the library's data -/
mutual
def F.py : F → PyData
  | .non => .none
  | .bl b => .bool b
  | .int i => .int i
  | .str s => .str s
  | .tup l => .tuple (F.pys l)
  | .ktup l => .tuple (F.pys l)
  | .lst l => .list (F.pys l)
  | .scr l => .list (l.map .int)
  | .dct _ => .none
def F.pys : List F → List PyData
  | [] => []
  | x :: r => F.py x :: F.pys r
end
mutual
/-- no dict within -/
def F.dat : F → Bool
  | .tup l => F.dats l
  | .ktup l => F.dats l
  | .lst l => F.dats l
  | .dct _ => false
  | _ => true
def F.dats : List F → Bool
  | [] => true
  | x :: r => F.dat x && F.dats r
end
theorem intsDp {K : PySem.W.Frag} {H : Hp} : ∀ l : List Int, DpAll K H (l.map V.int) (l.map PyData.int)
  | [] => .nil
  | i :: l => .cons (.int i) (intsDp l)
theorem intsLay : ∀ l : List Int, PyData.canLayAll0 (l.map PyData.int) = true
  | [] => by simp only [List.map_nil, PyData.canLayAll0]
  | i :: l => by simp only [List.map_cons, PyData.canLayAll0, PyData.canLay0, intsLay l, Bool.and_self]
mutual
theorem VF.dp {K : PySem.W.Frag} {ρ : Ro} {H : Hp} : ∀ {x : F} {v : V}, VF K ρ H x v → F.dat x = true → Dp K H v (F.py x) ∧ PyData.canLay0 (F.py x) = true
  | .non, v, h, _ => by simp only [VF] at h; subst h; simp only [F.py, PyData.canLay0]; exact ⟨.non, trivial⟩
  | .bl b, v, h, _ => by simp only [VF] at h; subst h; simp only [F.py, PyData.canLay0]; exact ⟨.bl b, trivial⟩
  | .int i, v, h, _ => by simp only [VF] at h; subst h; simp only [F.py, PyData.canLay0]; exact ⟨.int i, trivial⟩
  | .str s, v, h, _ => by simp only [VF] at h; obtain ⟨rfl, _, k⟩ := h; simp only [F.py, PyData.canLay0]; exact ⟨.str s, k⟩
  | .tup l, v, h, d => by
    simp only [VF] at h
    obtain ⟨a, xs, rfl, h1, _, p⟩ := h
    simp only [F.dat] at d
    obtain ⟨q1, q2⟩ := VFs.dp p d
    simp only [F.py, PyData.canLay0]
    exact ⟨.tup (VF.sqT h1) q1, q2⟩
  | .ktup l, v, h, d => by
    simp only [VF] at h
    obtain ⟨a, xs, rfl, h1, _, p⟩ := h
    simp only [F.dat] at d
    obtain ⟨q1, q2⟩ := VFs.dp p d
    simp only [F.py, PyData.canLay0]
    exact ⟨.tup (.inr h1) q1, q2⟩
  | .lst l, v, h, d => by
    simp only [VF] at h
    obtain ⟨a, xs, rfl, ⟨h1, _⟩, _, p⟩ := h
    simp only [F.dat] at d
    obtain ⟨q1, q2⟩ := VFs.dp p d
    simp only [F.py, PyData.canLay0]
    exact ⟨.lst (.inl (.inl h1)) q1, q2⟩
  | .scr l, v, h, _ => by
    simp only [VF] at h
    obtain ⟨a, rfl, h1, _⟩ := h
    simp only [F.py, PyData.canLay0]
    refine ⟨.lst ?_ (intsDp l), intsLay l⟩
    rcases h1 with ⟨h1, _⟩ | h1
    · exact .inl h1
    · exact .inr h1
  | .dct l, v, h, d => by simp only [F.dat] at d; cases d
theorem VFs.dp {K : PySem.W.Frag} {ρ : Ro} {H : Hp} : ∀ {l : List F} {vs : List V}, VFs K ρ H l vs → F.dats l = true → DpAll K H vs (F.pys l) ∧ PyData.canLayAll0 (F.pys l) = true
  | [], vs, h, _ => by simp only [VFs] at h; subst h; simp only [F.pys, PyData.canLayAll0]; exact ⟨.nil, trivial⟩
  | x :: r, vs, h, d => by
    simp only [VFs] at h
    obtain ⟨v, vr, rfl, h1, h2⟩ := h
    simp only [F.dats, Bool.and_eq_true] at d
    obtain ⟨p1, p2⟩ := VF.dp h1 d.1
    obtain ⟨q1, q2⟩ := VFs.dp h2 d.2
    simp only [F.pys, PyData.canLayAll0, p2, q2, Bool.and_self]
    exact ⟨.cons p1 q1, trivial⟩
end

/-! ### == != -/
def eqF (x y : F) : Bool := PyData.eqv (F.py x) (F.py y)
def cmpable (x y : F) : Bool := F.dat x && F.dat y && decide (min (F.py x).depth (F.py y).depth ≤ 100)
def cEq : D → D → Sto → R D
  | .f x, .f y, s => if cmpable x y then .ok (.f (.bl (eqF x y))) s else .fail
  | _, _, _ => .fail
def cNe : D → D → Sto → R D
  | .f x, .f y, s => if cmpable x y then .ok (.f (.bl (!eqF x y))) s else .fail
  | _, _, _ => .fail
section ops
variable {X : Cx} {L : Lk} {W : Nat → Hp → Prop}
theorem op_cEq (hK : X.K = L.K) (hu : X.A.units + 100 < cLine) : OpR X (compareOp .Eq) (rO L W cEq) := by
  rintro pins s σ H x y v u Q I rx ry ⟨ρ, st, d, e, sr, hd, he, g⟩
  unfold cEq at g
  split at g
  · split at g
    · rename_i hc
      unfold cmpable at hc
      simp only [Bool.and_eq_true, decide_eq_true_eq] at hc
      obtain ⟨p1, q1⟩ := VF.dp (VR.f_iff.mp hd) hc.1.1
      obtain ⟨p2, q2⟩ := VF.dp (VR.f_iff.mp he) hc.1.2
      rw [← hK] at p1 p2
      obtain ⟨as, r1⟩ := Dp.reads I _ _ _ p1 rx
      obtain ⟨bs, r2⟩ := Dp.reads I _ _ _ p2 ry
      exact SeqAt.compareEq_reads r1 r2 q1 q2 (by omega) ⟨.bl _, H, I, rfl, g.here sr (vBl _)⟩
    · exact g.elim
  · exact g.elim
theorem op_cNe (hK : X.K = L.K) (hu : X.A.units + 100 < cLine) : OpR X (compareOp .NotEq) (rO L W cNe) := by
  rintro pins s σ H x y v u Q I rx ry ⟨ρ, st, d, e, sr, hd, he, g⟩
  unfold cNe at g
  split at g
  · split at g
    · rename_i hc
      unfold cmpable at hc
      simp only [Bool.and_eq_true, decide_eq_true_eq] at hc
      obtain ⟨p1, q1⟩ := VF.dp (VR.f_iff.mp hd) hc.1.1
      obtain ⟨p2, q2⟩ := VF.dp (VR.f_iff.mp he) hc.1.2
      rw [← hK] at p1 p2
      obtain ⟨as, r1⟩ := Dp.reads I _ _ _ p1 rx
      obtain ⟨bs, r2⟩ := Dp.reads I _ _ _ p2 ry
      exact SeqAt.compareNe_reads r1 r2 q1 q2 (by omega) ⟨.bl _, H, I, rfl, g.here sr (vBl _)⟩
    · exact g.elim
  · exact g.elim
/-! ### order -/
def cLt : D → D → Sto → R D
  | .f (.int i), .f (.int j), s => .ok (.f (.bl (decide (i < j)))) s
  | _, _, _ => .fail
def cLe : D → D → Sto → R D
  | .f (.int i), .f (.int j), s => .ok (.f (.bl (decide (i ≤ j)))) s
  | _, _, _ => .fail
def cGt : D → D → Sto → R D
  | .f (.int i), .f (.int j), s => .ok (.f (.bl (decide (j < i)))) s
  | _, _, _ => .fail
def cGe : D → D → Sto → R D
  | .f (.int i), .f (.int j), s => .ok (.f (.bl (decide (j ≤ i)))) s
  | _, _, _ => .fail
theorem op_cLt : OpR X (compareOp .Lt) (rO L W cLt) := by
  rintro pins s σ H x y v u Q I rx ry ⟨ρ, st, d, e, sr, hd, he, g⟩
  unfold cLt at g
  split at g
  · obtain rfl := hd.int; obtain rfl := he.int
    exact op_lt pins s σ H _ _ v u Q I rx ry ⟨_, _, rfl, rfl, g.here sr (vBl _)⟩
  · exact g.elim
theorem op_cLe : OpR X (compareOp .LtE) (rO L W cLe) := by
  rintro pins s σ H x y v u Q I rx ry ⟨ρ, st, d, e, sr, hd, he, g⟩
  unfold cLe at g
  split at g
  · obtain rfl := hd.int; obtain rfl := he.int
    exact op_le pins s σ H _ _ v u Q I rx ry ⟨_, _, rfl, rfl, g.here sr (vBl _)⟩
  · exact g.elim
theorem op_cGt : OpR X (compareOp .Gt) (rO L W cGt) := by
  rintro pins s σ H x y v u Q I rx ry ⟨ρ, st, d, e, sr, hd, he, g⟩
  unfold cGt at g
  split at g
  · obtain rfl := hd.int; obtain rfl := he.int
    exact op_gt pins s σ H _ _ v u Q I rx ry ⟨_, _, rfl, rfl, g.here sr (vBl _)⟩
  · exact g.elim
theorem op_cGe : OpR X (compareOp .GtE) (rO L W cGe) := by
  rintro pins s σ H x y v u Q I rx ry ⟨ρ, st, d, e, sr, hd, he, g⟩
  unfold cGe at g
  split at g
  · obtain rfl := hd.int; obtain rfl := he.int
    exact op_ge pins s σ H _ _ v u Q I rx ry ⟨_, _, rfl, rfl, g.here sr (vBl _)⟩
  · exact g.elim
/-! ### is None -/
def isNon (s : Sto) : D → Option Bool
  | .f .non => some true
  | .f _ => some false
  | .tup _ => some false
  | .loc n => match s[n]? with | some .dead => none | some _ => some false | none => none
theorem isNon_ok {ρ : Ro} {H : Hp} {s : Sto} {d : D} {b : Bool} {v : V} (e : isNon s d = some b) (sr : SR L ρ s H) (h : VR L.K ρ H d v) : b = decide (v = .non) := by
  unfold isNon at e
  split at e
  · cases e; rw [h.non]; simp
  · rename_i x hx
    cases e
    have h := VR.f_iff.mp h
    cases x with
    | non => exact (hx rfl).elim
    | bl b => simp only [VF] at h; subst h; rfl
    | int b => simp only [VF] at h; subst h; rfl
    | str b => simp only [VF] at h; obtain ⟨rfl, _⟩ := h; rfl
    | tup b => simp only [VF] at h; obtain ⟨_, _, rfl, _⟩ := h; rfl
    | ktup b => simp only [VF] at h; obtain ⟨_, _, rfl, _⟩ := h; rfl
    | lst b => simp only [VF] at h; obtain ⟨_, _, rfl, _⟩ := h; rfl
    | scr b => simp only [VF] at h; obtain ⟨_, rfl, _⟩ := h; rfl
    | dct b => simp only [VF] at h; obtain ⟨_, _, rfl, _⟩ := h; rfl
  · cases e; obtain ⟨_, _, rfl, _⟩ := VR.tup_iff.mp h; rfl
  · split at e
    · cases e
    · rename_i hn hs
      cases e
      obtain ⟨a, rfl, _⟩ := sr.at h hs (fun z => hn (by rw [z]))
      rfl
    · cases e
/-! ### in -/
def flatD : D → Bool
  | .f .non => true | .f (.bl _) => true | .f (.int _) => true | .f (.str _) => true | _ => false
def eqD : D → D → Bool
  | .f .non, .f .non => true
  | .f (.bl a), .f (.bl b) => a == b
  | .f (.bl a), .f (.int b) => (if a then 1 else 0) == b
  | .f (.int a), .f (.bl b) => a == (if b then 1 else 0)
  | .f (.int a), .f (.int b) => a == b
  | .f (.str a), .f (.str b) => a == b
  | _, _ => false
theorem flat_ok {ρ : Ro} {H : Hp} {d : D} {v : V} (h : VR L.K ρ H d v) (e : flatD d = true) : flatV v = true := by
  unfold flatD at e
  split at e
  · rw [h.non]; rfl
  · rw [h.bl]; rfl
  · rw [h.int]; rfl
  · obtain ⟨rfl, _⟩ := h.str; rfl
  · cases e
theorem eqD_ok {ρ : Ro} {H : Hp} {d e : D} {v u : V} (h : VR L.K ρ H d v) (k : VR L.K ρ H e u) (f : flatD d = true) (g : flatD e = true) : eqD d e = eqV v u := by
  unfold flatD at f g
  split at f <;> split at g <;> first
    | (cases f; done) | (cases g; done)
    | (try obtain rfl := h.non
       try obtain rfl := h.bl
       try obtain rfl := h.int
       try obtain ⟨rfl, _⟩ := h.str
       try obtain rfl := k.non
       try obtain rfl := k.bl
       try obtain rfl := k.int
       try obtain ⟨rfl, _⟩ := k.str
       rfl)
def inSeq (d : D) (l : List D) : Bool := l.any fun y => eqD y d
theorem inSeq_ok {ρ : Ro} {H : Hp} {d : D} {v : V} (h : VR L.K ρ H d v) (f : flatD d = true) : ∀ {l : List D} {xs : List V}, VL L.K ρ H l xs → l.all flatD = true → xs.all flatV = true ∧ inV v xs = inSeq d l
  | _, _, .nil, _ => ⟨rfl, rfl⟩
  | _, _, .cons k t, g => by
    simp only [List.all_cons, Bool.and_eq_true] at g
    obtain ⟨h1, h2⟩ := inSeq_ok h f t g.2
    refine ⟨by rw [List.all_cons, flat_ok k g.1, h1]; rfl, ?_⟩
    unfold inV inSeq at *
    rw [List.any_cons, List.any_cons, h2, eqD_ok k h g.1 f]
/-! dicts by their keys -/
def keyD : D → Option Key
  | .f (.str k) => some (.inr k)
  | .f (.int k) => some (.inl k)
  | _ => none
def keyF : F → Option Key
  | .str k => some (.inr k)
  | .int k => some (.inl k)
  | _ => none
def keysF : List F → Option (List Key)
  | [] => some []
  | x :: r => (keyF x).bind fun k => (keysF r).map (k :: ·)
def keyT : D → Option (List Key)
  | .f (.tup l) => keysF l
  | _ => none
def getK {α κ : Type} [DecidableEq κ] (l : List (κ × α)) (k : κ) : Option α := (l.find? fun p => decide (p.1 = k)).map (·.2)
def setK {α κ : Type} [DecidableEq κ] (l : List (κ × α)) (k : κ) (v : α) : List (κ × α) :=
  if (l.any fun p => decide (p.1 = k)) = true then l.map (fun p => if p.1 = k then (p.1, v) else p) else l ++ [(k, v)]
theorem keyD_ok {ρ : Ro} {H : Hp} {d : D} {v : V} {k : Key} (h : VR L.K ρ H d v) (e : keyD d = some k) : v = kV k := by
  unfold keyD at e
  split at e
  · cases e; exact h.str.1
  · cases e; exact h.int
  · cases e
theorem keysF_ok {ρ : Ro} {H : Hp} : ∀ {l : List F} {xs : List V} {ks : List Key}, FL L.K ρ H l xs → keysF l = some ks → xs = ks.map kV
  | _, _, _, .nil, e => by cases e; rfl
  | x :: r, _, ks, .cons h t, e => by
    unfold keysF at e
    cases e1 : keyF x with
    | none => rw [e1] at e; cases e
    | some k =>
      cases e2 : keysF r with
      | none => rw [e1, e2] at e; cases e
      | some kr =>
        rw [e1, e2] at e
        cases e
        rw [keysF_ok t e2, List.map_cons]
        congr 1
        unfold keyF at e1
        split at e1
        · cases e1; simp only [VF] at h; exact h.1
        · cases e1; simp only [VF] at h; exact h
        · cases e1
theorem keyT_ok {ρ : Ro} {H : Hp} {d : D} {v : V} {ks : List Key} (h : VR L.K ρ H d v) (e : keyT d = some ks) : ∃ b, v = .ref b ∧ H b = some (.tup (ks.map kV)) := by
  unfold keyT at e
  split at e
  · obtain ⟨a, xs, rfl, h1, _, p⟩ := VF.tup_iff.mp (VR.f_iff.mp h)
    rw [keysF_ok p e] at h1
    exact ⟨a, rfl, h1.1⟩
  · cases e
section kv
variable {α κ : Type} [DecidableEq κ] {r : α → V → Prop}
theorem getK_ok {k : κ} : ∀ {l : List (κ × α)} {kvs : List (κ × V)}, KVR r l kvs → match getK l k, valV kvs k with | some d, some v => r d v | none, none => True | _, _ => False
  | _, _, .nil => trivial
  | _, _, @Paired.cons _ _ _ (a, x) (b, y) _ _ h t => by
    obtain ⟨e, h⟩ := h
    simp only at e h
    subst e
    unfold getK valV
    rw [List.find?_cons, List.find?_cons]
    by_cases ek : a = k
    · simp only [ek, decide_true, Option.map_some]; exact h
    · simp only [ek, decide_false]; exact getK_ok t
theorem any_ok {k : κ} : ∀ {l : List (κ × α)} {kvs : List (κ × V)}, KVR r l kvs → (l.any fun p => decide (p.1 = k)) = (kvs.any fun p => decide (p.1 = k))
  | _, _, .nil => rfl
  | _, _, .cons h t => by rw [List.any_cons, List.any_cons, any_ok t, h.1]
theorem setK_ok {k : κ} {d : α} {v : V} (hv : r d v) {l : List (κ × α)} {kvs : List (κ × V)} (h : KVR r l kvs) : KVR r (setK l k d) (putK kvs k v) := by
  have go : ∀ {l : List (κ × α)} {kvs : List (κ × V)}, KVR r l kvs → KVR r (l.map (fun p => if p.1 = k then (p.1, d) else p)) (kvs.map (fun p => if p.1 = k then (p.1, v) else p)) := fun {l kvs} h => by
    induction h with
    | nil => exact .nil
    | @cons a b _ _ h t ih =>
      refine .cons ?_ ih
      obtain ⟨e, h⟩ := h
      show (if a.1 = k then (a.1, d) else a).1 = (if b.1 = k then (b.1, v) else b).1 ∧ r (if a.1 = k then (a.1, d) else a).2 (if b.1 = k then (b.1, v) else b).2
      by_cases ek : b.1 = k
      · rw [if_pos ek, if_pos (e.trans ek)]; exact ⟨e, hv⟩
      · rw [if_neg ek, if_neg (fun z => ek (e.symm.trans z))]; exact ⟨e, h⟩
  unfold setK putK
  rw [any_ok h]
  split
  · exact go h
  · exact papp h (.cons ⟨rfl, hv⟩ .nil)
end kv
/-- what stands at a key: none: no dict, or no such kind of key -/
def dGet (o k : D) (s : Sto) : Option (Option D) := match o with
  | .f (.dct l) => (keyD k).map fun k => (getK l k).map .f
  | .loc n => match s[n]? with
    | some (.dK l) => (keyD k).map fun k => getK l k
    | some (.dT l) => (keyT k).map fun k => getK l k
    | _ => none
  | _ => none
theorem dGet_ok {ρ : Ro} {H : Hp} {s : Sto} {o k : D} {x y : V} {r : Option D} (e : dGet o k s = some r) (sr : SR L ρ s H) (h : VR L.K ρ H o x) (hk : VR L.K ρ H k y) :
    ∃ a v, x = .ref a ∧ DGet H a y v ∧ v.isSome = r.isSome ∧ ∀ d, r = some d → ∃ w, v = some w ∧ VR L.K ρ H d w := by
  have fin : ∀ {α κ : Type} [DecidableEq κ] {q : α → V → Prop} {l : List (κ × α)} {kvs : List (κ × V)} {k : κ} {f : α → D}, KVR q l kvs → (∀ d v, q d v → VR L.K ρ H (f d) v) →
      (valV kvs k).isSome = ((getK l k).map f).isSome ∧ ∀ d, (getK l k).map f = some d → ∃ w, valV kvs k = some w ∧ VR L.K ρ H d w := fun {α κ _ q l kvs k f} p hf => by
    have z := getK_ok (k := k) p
    cases e1 : getK l k with
    | none =>
      cases e2 : valV kvs k with
      | none => exact ⟨rfl, fun d z => by cases z⟩
      | some w => rw [e1, e2] at z; exact z.elim
    | some d =>
      cases e2 : valV kvs k with
      | none => rw [e1, e2] at z; exact z.elim
      | some w => rw [e1, e2] at z; exact ⟨rfl, fun d' z' => by cases z'; exact ⟨w, rfl, hf _ _ z⟩⟩
  unfold dGet at e
  split at e
  · rename_i l
    obtain ⟨a, xs, rfl, ⟨⟨od, h1⟩, _⟩, _, p⟩ := VF.dct_iff.mp (VR.f_iff.mp h)
    cases ek : keyD k with
    | none => rw [ek] at e; cases e
    | some k' =>
      rw [ek] at e; cases e
      obtain rfl := keyD_ok hk ek
      exact ⟨a, _, rfl, .inl ⟨xs, k', .inr ⟨od, h1⟩, rfl, rfl⟩, fin p fun _ _ q => VR.f_iff.mpr q⟩
  · rename_i n
    split at e
    · rename_i hn
      obtain ⟨a, rfl, _, xs, h1, p⟩ := sr.at h hn (by intro z; cases z)
      cases ek : keyD k with
      | none => rw [ek] at e; cases e
      | some k' =>
        rw [ek] at e; cases e
        obtain rfl := keyD_ok hk ek
        have := fin (k := k') (f := id) p fun _ _ q => q
        rw [Option.map_id] at this
        exact ⟨a, _, rfl, DGet.k h1, this⟩
    · rename_i hn
      obtain ⟨a, rfl, _, xs, h1, p⟩ := sr.at h hn (by intro z; cases z)
      cases ek : keyT k with
      | none => rw [ek] at e; cases e
      | some k' =>
        rw [ek] at e; cases e
        obtain ⟨b, rfl, hb⟩ := keyT_ok hk ek
        have := fin (k := k') (f := id) p fun _ _ q => q
        rw [Option.map_id] at this
        exact ⟨a, _, rfl, DGet.t h1 hb, this⟩
    · cases e
  · cases e
/-- x in y: y a text (x one sign), a list or a tuple (all flat), a dict -/
def hasIn (d e : D) (s : Sto) : Option Bool :=
  match e with
  | .f (.str z) => (match d with | .f (.str c) => (match c.cps.toList with | [k] => some (decide (k ∈ z.cps.toList)) | _ => none) | _ => none)
  | _ => match dGet e d s with
    | some r => some r.isSome
    | none => match (seqL e s).or (seqT e) with
      | some l => if flatD d && l.all flatD then some (inSeq d l) else none
      | none => none
def cIn (d e : D) (s : Sto) : R D := match hasIn d e s with | some b => .ok (.f (.bl b)) s | none => .fail
def cNin (d e : D) (s : Sto) : R D := match hasIn d e s with | some b => .ok (.f (.bl !b)) s | none => .fail
theorem hasIn_ok {ρ : Ro} {H : Hp} {s : Sto} {d e : D} {b : Bool} {x y : V} (h : hasIn d e s = some b) (sr : SR L ρ s H) (hd : VR L.K ρ H d x) (he : VR L.K ρ H e y) :
    (∃ (c : Nat) (z : Str), x = .str ⟨#[c]⟩ ∧ y = .str z ∧ b = decide (c ∈ z.cps.toList)) ∨ (∃ p xs, y = .ref p ∧ (SqL L.K H p xs ∨ SqT L.K H p xs) ∧ flatV x = true ∧ xs.all flatV = true ∧ b = inV x xs) ∨
      ∃ a o, y = .ref a ∧ DGet H a x o ∧ b = o.isSome := by
  unfold hasIn at h
  split at h
  · split at h
    · split at h
      · rename_i hc
        cases h
        obtain ⟨rfl, _⟩ := hd.str
        obtain ⟨rfl, _⟩ := he.str
        refine .inl ⟨_, _, ?_, rfl, rfl⟩
        congr 1
        apply Str.ext'; apply Array.toList_inj.mp; rw [hc]
      · cases h
    · cases h
  · split at h
    · rename_i hr
      cases h
      obtain ⟨a, v, rfl, g, q, _⟩ := dGet_ok hr sr he hd
      exact .inr (.inr ⟨a, v, rfl, g, q.symm⟩)
    · split at h
      · rename_i l hl
        split at h
        · rename_i hf
          cases h
          simp only [Bool.and_eq_true] at hf
          have fin : ∀ {a xs}, y = .ref a → (SqL L.K H a xs ∨ SqT L.K H a xs) → VL L.K ρ H l xs → (∃ p xs, y = .ref p ∧ (SqL L.K H p xs ∨ SqT L.K H p xs) ∧ flatV x = true ∧ xs.all flatV = true ∧ inSeq d l = inV x xs) := fun {a xs} e1 e2 p => by
            obtain ⟨q1, q2⟩ := inSeq_ok hd hf.1 p hf.2
            exact ⟨a, xs, e1, e2, flat_ok hd hf.1, q1, q2.symm⟩
          right; left
          cases e1 : seqL e s with
          | some l' =>
            rw [e1] at hl; cases hl
            obtain ⟨a, xs, hv, q, p⟩ := seqL_ok e1 sr he
            exact fin hv (.inl q) p
          | none =>
            rw [e1] at hl
            obtain ⟨a, xs, hv, q, p, _⟩ := seqT_ok (show seqT e = some l from hl) he
            exact fin hv (.inr q) p
        · cases h
      · cases h
theorem op_din (hu : X.A.units + 1 < cLine) : OpR X (compareOp .In) (fun x y H Q => ∃ a o, y = .ref a ∧ DGet H a x o ∧ Q (.bl o.isSome) H) := by
  rintro pins s σ H x y v u Q I rx ry ⟨a, o, rfl, g, q⟩
  obtain rfl : u = Value.ref a := ry
  exact d_in hu I g rx fun s' I' => ⟨.bl _, H, I', rfl, q⟩
theorem op_dnotin (hu : X.A.units + 1 < cLine) : OpR X (compareOp .NotIn) (fun x y H Q => ∃ a o, y = .ref a ∧ DGet H a x o ∧ Q (.bl !o.isSome) H) := by
  rintro pins s σ H x y v u Q I rx ry ⟨a, o, rfl, g, q⟩
  obtain rfl : u = Value.ref a := ry
  exact d_notIn hu I g rx fun s' I' => ⟨.bl _, H, I', rfl, q⟩
theorem op_cIn (hK : X.K = L.K) (hu : X.A.units + 100 < cLine) : OpR X (compareOp .In) (rO L W cIn) := by
  rintro pins s σ H x y v u Q I rx ry ⟨ρ, st, d, e, sr, hd, he, g⟩
  unfold cIn at g
  cases hb : hasIn d e st with
  | none => rw [hb] at g; exact g.elim
  | some b =>
    rw [hb] at g
    have g := g.here sr (vBl b)
    rcases hasIn_ok hb sr hd he with ⟨c, z, rfl, rfl, rfl⟩ | ⟨p, xs, rfl, q, f1, f2, rfl⟩ | ⟨a, o, rfl, q, rfl⟩
    · exact op_in_sign pins s σ H _ _ v u Q I rx ry ⟨c, z, rfl, rfl, g⟩
    · rw [← hK] at q
      exact op_in_seq pins s σ H _ _ v u Q I rx ry ⟨p, xs, rfl, q, f1, f2, g⟩
    · exact op_din (by omega) pins s σ H _ _ v u Q I rx ry ⟨a, o, rfl, q, g⟩
theorem op_cNin (hK : X.K = L.K) (hu : X.A.units + 100 < cLine) : OpR X (compareOp .NotIn) (rO L W cNin) := by
  rintro pins s σ H x y v u Q I rx ry ⟨ρ, st, d, e, sr, hd, he, g⟩
  unfold cNin at g
  cases hb : hasIn d e st with
  | none => rw [hb] at g; exact g.elim
  | some b =>
    rw [hb] at g
    have g := g.here sr (vBl (!b))
    rcases hasIn_ok hb sr hd he with ⟨c, z, rfl, rfl, rfl⟩ | ⟨p, xs, rfl, q, f1, f2, rfl⟩ | ⟨a, o, rfl, q, rfl⟩
    · exact op_notIn_sign pins s σ H _ _ v u Q I rx ry ⟨c, z, rfl, rfl, g⟩
    · rw [← hK] at q
      exact op_notIn_seq pins s σ H _ _ v u Q I rx ry ⟨p, xs, rfl, q, f1, f2, g⟩
    · exact op_dnotin (by omega) pins s σ H _ _ v u Q I rx ry ⟨a, o, rfl, q, g⟩
def cIs (d e : D) (s : Sto) : R D := match e with
  | .f .non => (match isNon s d with | some b => .ok (.f (.bl b)) s | none => .fail)
  | _ => .fail
def cNis (d e : D) (s : Sto) : R D := match e with
  | .f .non => (match isNon s d with | some b => .ok (.f (.bl !b)) s | none => .fail)
  | _ => .fail
theorem op_cIs : OpR X (compareOp .Is) (rO L W cIs) := by
  rintro pins s σ H x y v u Q I rx ry ⟨ρ, st, d, e, sr, hd, he, g⟩
  unfold cIs at g
  split at g
  · split at g
    · rename_i hb
      obtain rfl := he.non
      rw [isNon_ok hb sr hd] at g
      exact op_isN pins s σ H _ _ v u Q I rx ry ⟨rfl, g.here sr (vBl _)⟩
    · exact g.elim
  · exact g.elim
theorem op_cNis : OpR X (compareOp .IsNot) (rO L W cNis) := by
  rintro pins s σ H x y v u Q I rx ry ⟨ρ, st, d, e, sr, hd, he, g⟩
  unfold cNis at g
  split at g
  · split at g
    · rename_i hb
      obtain rfl := he.non
      rw [isNon_ok hb sr hd] at g
      exact op_notN pins s σ H _ _ v u Q I rx ry ⟨rfl, g.here sr (vBl _)⟩
    · exact g.elim
  · exact g.elim
end ops
end JM

set_option autoImplicit false
/-! J4: subscripts, slices, [::-1]. -/
namespace JM
open PySem PySem.Spec PyProof.Rows L2

def one (c : Nat) : Str := ⟨#[c]⟩
theorem strOk_mem {x : Str} (h : PyData.strOk x = true) {c : Nat} (hc : c ∈ x.cps.toList) : PyData.strOk (one c) = true := by
  unfold PyData.strOk at *
  rw [Array.all_eq_true_iff_forall_mem] at h
  have := h c (by simpa using hc)
  show (#[c] : Array Nat).all _ = true
  simpa using this
theorem strOk_sub {x y : Str} (h : PyData.strOk x = true) (k : ∀ c ∈ y.cps.toList, c ∈ x.cps.toList) : PyData.strOk y = true := by
  unfold PyData.strOk at *
  rw [Array.all_eq_true_iff_forall_mem] at *
  intro c hc
  exact h c (by simpa using k c (by simpa using hc))
/-- d[i] -/
def cIdx (d i : D) (s : Sto) : R D :=
  match d, i with
  | .f (.str z), .f (.int k) => (match atI z.cps.toList k with | some c => .ok (.f (.str (one c))) s | none => .fail)
  | _, _ => match dGet d i s with
    | some (some v) => .ok v s
    | some none => .fail
    | none => match i with
      | .f (.int k) => (match (seqL d s).or (seqT d) with
        | some l => (match atI l k with | some v => .ok v s | none => .fail)
        | none => .fail)
      | _ => .fail
section ops
variable {X : Cx} {L : Lk} {W : Nat → Hp → Prop}
theorem ix_dict (hu : X.A.units + 1 < cLine) : IxR X (fun x y H Q => ∃ a v, x = .ref a ∧ DGet H a y (some v) ∧ Q v H) := by
  rintro value slice pins s σ H x y v u Q I rx ry ⟨a, w, rfl, g, q⟩ hs
  obtain rfl : v = Value.ref a := rx
  exact tail_any (T := "dict") (dict_typeIs I g) PySem.F.slot_dict_getitem.lookup (d_getItem hu I g ry fun w' s3 I3 rw' => ⟨w, H, I3, rw', q⟩) hs
theorem pat {ρ : Ro} {H : Hp} {l : List D} {xs : List V} {k : Int} {d : D} (p : VL L.K ρ H l xs) (e : atI l k = some d) : ∃ v, atI xs k = some v ∧ VR L.K ρ H d v := by
  unfold atI at *
  rw [p.length] at e
  cases q : ixN xs.length k with
  | none => rw [q] at e; cases e
  | some j => rw [q] at e; exact pget p e
theorem atI_mem {α : Type} {l : List α} {k : Int} {x : α} (e : atI l k = some x) : x ∈ l := by
  unfold atI at e
  cases q : ixN l.length k with
  | none => rw [q] at e; cases e
  | some j => rw [q] at e; exact List.mem_of_getElem? e
theorem ix_ok (hK : X.K = L.K) (hu : X.A.units + 100 < cLine) : IxR X (rO L W cIdx) := by
  rintro value slice pins s σ H x y v u Q I rx ry ⟨ρ, st, d, e, sr, hd, he, g⟩ hs
  unfold cIdx at g
  split at g
  · obtain ⟨rfl, hl, ho⟩ := hd.str; obtain rfl := he.int
    split at g
    · rename_i c hc
      exact ix_str value slice pins s σ H _ _ v u Q I rx ry ⟨_, _, c, rfl, rfl, hl, hc, g.here sr (vStr (by rw [sizeLine_eq]; exact Nat.le_trans (Nat.le_refl 1) (by decide)) (strOk_mem ho (atI_mem hc)))⟩ hs
    · exact g.elim
  · split at g
    · rename_i w hw
      obtain ⟨a, o, rfl, q, _, h2⟩ := dGet_ok hw sr hd he
      obtain ⟨w', rfl, hv⟩ := h2 _ rfl
      exact ix_dict (by omega) value slice pins s σ H _ _ v u Q I rx ry ⟨a, w', rfl, q, g.here sr hv⟩ hs
    · exact g.elim
    · split at g
      · obtain rfl := he.int
        split at g
        · rename_i l hl
          split at g
          · rename_i w hw
            cases e1 : seqL d st with
            | some l' =>
              rw [e1] at hl; cases hl
              obtain ⟨a, xs, rfl, q, p⟩ := seqL_ok e1 sr hd
              obtain ⟨v', h1, h2⟩ := pat p hw
              rw [← hK] at q
              exact ix_list value slice pins s σ H _ _ v u Q I rx ry ⟨a, xs, _, v', rfl, rfl, q, h1, g.here sr h2⟩ hs
            | none =>
              rw [e1] at hl
              obtain ⟨a, xs, rfl, q, p, _⟩ := seqT_ok (show seqT d = some l from hl) hd
              obtain ⟨v', h1, h2⟩ := pat p hw
              rw [← hK] at q
              exact ix_tup value slice pins s σ H _ _ v u Q I rx ry ⟨a, xs, _, v', rfl, rfl, q, h1, g.here sr h2⟩ hs
          · exact g.elim
        · exact g.elim
      · exact g.elim

/-! ### slices -/
def cutL {α : Type} (xs : List α) (lo hi : Option Int) : List α := (xs.drop (HT.sIx xs.length 0 lo)).take (HT.sIx xs.length xs.length hi - HT.sIx xs.length 0 lo)
def cSl (m : Bool) (d : D) (lo hi : Option Int) (s : Sto) : R D := match d with
  | .f (.str z) => .ok (.f (.str (cutS z lo hi))) s
  | .f (.tup l) => .ok (.f (.tup (cutL l lo hi))) s
  | .tup l => .ok (.tup (cutL l lo hi)) s
  | d => match seqL d s with
    | some l => newL m (cutL l lo hi) s
    | none => .fail
def rSl (L : Lk) (W : Nat → Hp → Prop) (m : Bool) : V → Option Int → Option Int → Hp → VK → Prop := fun x lo hi H Q => ∃ ρ s d, SR L ρ s H ∧ VR L.K ρ H d x ∧ Good L (VR L.K) W ρ H Q (cSl m d lo hi s)
theorem cutL_le {α : Type} (l : List α) (lo hi : Option Int) : (cutL l lo hi).length ≤ l.length := by
  unfold cutL
  rw [List.length_take, List.length_drop]
  omega
theorem pcut {α β : Type} {r : α → β → Prop} {l : List α} {m : List β} (p : Paired r l m) (lo hi : Option Int) : Paired r (cutL l lo hi) (cutL m lo hi) := by
  unfold cutL
  rw [p.length]
  exact ptake _ (pdrop _ p)
theorem cut_whole {α : Type} {l : List α} {lo hi : Option Int} (h : HT.sIx l.length 0 lo = 0 ∧ HT.sIx l.length l.length hi = l.length) : cutL l lo hi = l := by
  unfold cutL
  rw [h.1, h.2, List.drop_zero, Nat.sub_zero, List.take_length]
theorem sl_ok (hK : X.K = L.K) (m : Bool) : SlR X (rSl L W m) := by
  rintro pins s σ H x v vl vu lo hi sl Q I rx hs pl pu ⟨ρ, st, d, sr, hd, g⟩
  unfold cSl at g
  split at g
  · obtain ⟨rfl, hl, ho⟩ := hd.str
    refine sl_str pins s σ H _ v vl vu lo hi sl Q I rx hs pl pu ⟨_, rfl, hl, g.here sr (vStr (Nat.le_trans (cutS_length _ _ _) hl) (strOk_sub ho fun c hc => ?_))⟩
    unfold cutS at hc
    exact List.mem_of_mem_drop (List.mem_of_mem_take (by simpa using hc))
  · obtain ⟨a, xs, rfl, h1, hl, p⟩ := VF.tup_iff.mp (VR.f_iff.mp hd)
    refine sl_tupA pins s σ H _ v vl vu lo hi sl Q I rx hs pl pu ⟨a, xs, rfl, by rw [hK]; exact VF.sqT h1, fun w => ?_, fun _ q hq => ?_⟩
    · rw [← p.length] at w
      rw [cut_whole w] at g
      exact g.here sr hd
    · exact g.new sr hq (VR.f_iff.mpr (VF.tup_iff.mpr ⟨q, _, rfl, ⟨upd_same, sr.free hq⟩, Nat.le_trans (cutL_le _ _ _) hl, FL.mono (pcut p lo hi) (Ex.fresh sr hq)⟩))
  · obtain ⟨a, xs, rfl, h1, hl, p⟩ := VR.tup_iff.mp hd
    refine sl_tupA pins s σ H _ v vl vu lo hi sl Q I rx hs pl pu ⟨a, xs, rfl, by rw [hK]; exact VF.sqT h1, fun w => ?_, fun _ q hq => ?_⟩
    · rw [← p.length] at w
      rw [cut_whole w] at g
      exact g.here sr hd
    · exact g.new sr hq (VR.tup_iff.mpr ⟨q, _, rfl, ⟨upd_same, sr.free hq⟩, Nat.le_trans (cutL_le _ _ _) hl, VL.mono (pcut p lo hi) (Ex.fresh sr hq)⟩)
  · split at g
    · rename_i l hl
      obtain ⟨a, xs, rfl, q, p⟩ := seqL_ok hl sr hd
      obtain ⟨_, k⟩ := newL_ok g sr (pcut p lo hi)
      exact sl_list pins s σ H _ v vl vu lo hi sl Q I rx hs pl pu ⟨a, xs, rfl, by rw [hK]; exact q, k⟩
    · exact g.elim
end ops

/-! ### [::-1] -/
theorem rev_adjust (n : Nat) : Builtin.Slice.sliceAdjust none none (-1) (n : Int) = ((n : Int) - 1, -1) := by
  unfold Builtin.Slice.sliceAdjust
  simp
theorem rev_places (n : Nat) : Builtin.Slice.slicePlaces ((n : Int) - 1) (-1) (-1) = n := by
  unfold Builtin.Slice.slicePlaces
  simp
  split <;> omega
theorem fm_congr {α β : Type} {f g : α → Option β} : ∀ {l : List α}, (∀ a ∈ l, f a = g a) → l.filterMap f = l.filterMap g
  | [], _ => rfl
  | a :: l, h => by
    rw [List.filterMap_cons, List.filterMap_cons, h a List.mem_cons_self, fm_congr fun b hb => h b (List.mem_cons_of_mem _ hb)]
theorem rev_pick {α : Type} : ∀ (l : List α), ((List.range l.length).filterMap fun (m : Nat) => l.toArray[(((l.length : Int) - 1) + (m : Int) * (-1)).toNat]?) = l.reverse := fun l => by
  have e : (List.range l.length).filterMap (fun (m : Nat) => l.toArray[(((l.length : Int) - 1) + (m : Int) * (-1)).toNat]?) = ((List.range l.length).map fun k => l.length - 1 - k).filterMap (l.toArray[·]?) := by
    rw [List.filterMap_map]
    apply fm_congr
    intro m hm
    have := List.mem_range.mp hm
    show l.toArray[(((l.length : Int) - 1) + (m : Int) * (-1)).toNat]? = l.toArray[l.length - 1 - m]?
    rw [show (((l.length : Int) - 1) + (m : Int) * (-1)).toNat = l.length - 1 - m by omega]
  rw [e, PySem.W.krv_range, List.filterMap_reverse]
  have := PySem.W.krv_all l.toArray
  rw [List.size_toArray] at this
  rw [this]
theorem rev_pick2 {α : Type} (l : List α) : ((List.range l.toArray.size).filterMap fun (m : Nat) => l.toArray[(((l.toArray.size : Int) - 1) + (m : Int) * (-1)).toNat]?) = l.reverse := by
  have := rev_pick l
  rwa [← List.size_toArray] at this
section rev
variable {prog : Program} {w : World} {A : Around} {E : Value → Shared → Prop} {s : Shared}
theorem sliceApplied_rev {sl : Addr} {vs : Value} {n : Nat} {Q : Int × Int × Nat → Shared → Prop} (hs : s.heap.IsSliceOf sl .none .none vs) (pv : IsPart vs (some (-1)))
    (h : Q ((n : Int) - 1, -1, n) s) : wpAny (model prog w) A (Builtin.Slice.sliceApplied (.ref sl) (pure (n : Int))) Q E s := by
  obtain ⟨os, hos, hcs, hds⟩ := id hs
  unfold Builtin.Slice.sliceApplied Builtin.Slice.sliceFields
  refine wpAny_bind (wpAny_bind (wpAny_field hos hds (x := .none) rfl (wpAny_bind (wpAny_field hos hds (x := .none) rfl (wpAny_bind (wpAny_field hos hds (x := vs) rfl (wpAny_pure ?_)))))))
  refine wpAny_bind (HT.slicePart_ pv ?_)
  show wpAny _ _ (if ((-1 : Int) == 0) = true then _ else _) _ _ s
  rw [if_neg (by decide)]
  refine wpAny_bind (HT.slicePart_ .none (wpAny_bind (HT.slicePart_ .none (wpAny_bind (wpAny_pure ?_)))))
  show wpAny _ _ (match Builtin.Slice.sliceAdjust none none (-1) (n : Int) with | (lo, hi) => pure (lo, (-1 : Int), Builtin.Slice.slicePlaces lo hi (-1))) _ _ s
  rw [rev_adjust]
  show wpAny _ _ (pure ((n : Int) - 1, (-1 : Int), Builtin.Slice.slicePlaces ((n : Int) - 1) (-1) (-1))) _ _ s
  rw [rev_places]
  exact wpAny_pure h
theorem getItem_tuple_rev {t sl : Addr} {items : List Value} {vs : Value} {Q : Value → Shared → Prop} (ht : IsTup s.heap t items.toArray) (hs : s.heap.IsSliceOf sl .none .none vs) (pv : IsPart vs (some (-1)))
    (h : Q (.ref s.heap.objs.size) { s with heap := s.heap.push { cls := .type "tuple", data := .seq items.reverse.toArray } })
    (hsz : items.length ≤ sizeLine) : wpAny (model prog w) A (getItem (.ref t) (.ref sl)) Q E s := by
  have htake : sizeOk (.seq items.reverse.toArray) := by
    show items.reverse.toArray.size ≤ sizeLine
    rw [List.size_toArray, List.length_reverse]
    exact hsz
  obtain ⟨os, hos, hcs, hds⟩ := id hs
  have hTs : s.TypeIs (.ref sl) "slice" := ⟨os, hos, hcs⟩
  unfold getItem
  try with_reducible refine wpAny_holding ?_
  first | refine wpAny_bind (wpAny_pure ?_) | skip
  refine wpAny_bind (wpAny_sequenceKey ht.typeIs (by decide) ?_)
  refine wpAny_bind (wpAny_callSpecial?_slot (name := Str.ofString "__getitem__") ht.typeIs PyProof.Rows.slot_tuple_getitem
    (wpAny_call_entry PyProof.Rows.slot_tuple_getitem ht.typeIs entry_tuple_getitem ?_ (args_tuple_getitem _ _)))
  show wpAny _ _ (Builtin.Tuple.tupleItemsOf (.ref t) >>= _) _ _ s
  refine wpAny_bind (tupleItemsOf_ ht ?_)
  refine wpAny_bind (wpAny_typeOf hTs ?_)
  rw [if_pos (by decide)]
  refine wpAny_bind (sliceApplied_rev hs pv ?_)
  have hno : ¬ ((((items.length : Int) - 1) == 0 && (-1 : Int) == 1 && items.length == items.toArray.size) = true) := by simp
  show wpAny _ _ (if (((items.length : Int) - 1) == 0 && (-1 : Int) == 1 && items.length == items.toArray.size) = true then _ else _) _ _ s
  rw [if_neg hno]
  show wpAny _ _ ((fun __r => do
        let __do_lift ← Builtin.Tuple.tupleExact (List.filterMap (fun (k : Nat) => items.toArray[((items.toArray.size : Int) - 1 + (k : Int) * -1).toNat]?) (List.range items.toArray.size)).toArray
        ret __do_lift) ()) _ _ s
  rw [rev_pick2]
  first
    | exact wpAny_bind (m := Builtin.Tuple.tupleExact _) (wpAny_newObj_type (wpAny_pure ⟨_, rfl, wpAny_pure h⟩) htake)
    | exact wpAny_bind (m := Builtin.Tuple.tupleExact _) (wpAny_newObj_type (wpAny_bind (wpAny_pure (wpAny_pure ⟨_, rfl, wpAny_pure h⟩))) htake)
    | exact wpAny_bind (wpAny_bind (m := Builtin.Tuple.tupleExact _) (wpAny_newObj_type (wpAny_pure (wpAny_pure ⟨_, rfl, wpAny_pure h⟩)) htake))
    | exact wpAny_bind (wpAny_bind (m := Builtin.Tuple.tupleExact _) (wpAny_newObj_type (wpAny_pure ⟨_, rfl, wpAny_pure h⟩) htake))
theorem getItem_str_rev {x : Str} {t : Tok} {a : Addr} {u : Tok} {Q : Value → Shared → Prop} (hs : s.heap.IsSliceOf a .none .none (.int (-1) u)) (hl : x.length ≤ sizeLine)
    (h : ∀ t' k, Q (.str ⟨x.cps.toList.reverse.toArray⟩ t') { s with toks := k }) : wpAny (model prog w) A (getItem (.str x t) (.ref a)) Q E s := by
  obtain ⟨os, hos, hcs, hds⟩ := hs
  refine wpAny_getItem_str_slice (l := none) (u := none) (st := some (-1, u)) ⟨os, hos, hcs, hds⟩ rfl ?_
  have e : Builtin.Str.strSliceIndices none none (-1) x.length = sliceRange ((x.length : Int) - 1) (-1) (-1) := rfl
  have e2 : (Builtin.Str.strSliceIndices none none (-1) x.length).filterMap (x.cps[·]?) = x.cps.toList.reverse := by
    rw [e, PySem.W.krv_sliceRange, PySem.W.krv_range, List.filterMap_reverse]
    have := PySem.W.krv_all x.cps
    rw [show x.length = x.cps.size from rfl, this]
  show Made.post (if ((-1 : Int) == 1 && (Builtin.Str.strSliceIndices none none (-1) x.length).length == x.length) = true then Made.val (.str x t)
    else Made.str ⟨((Builtin.Str.strSliceIndices none none (-1) x.length).filterMap (x.cps[·]?)).toArray⟩) Q s
  rw [if_neg (by simp), e2]
  refine ⟨?_, h _ _⟩
  show (List.toArray _).size ≤ sizeLine
  rw [List.size_toArray, List.length_reverse, Array.length_toList]
  exact hl
end rev
def cRev (m : Bool) (d : D) (s : Sto) : R D := match d with
  | .f (.str z) => .ok (.f (.str ⟨z.cps.toList.reverse.toArray⟩)) s
  | .f (.tup l) => .ok (.f (.tup l.reverse)) s
  | d => match seqL d s with
    | some l => newL m l.reverse s
    | none => .fail
def tRev (L : Lk) (W : Nat → Hp → Prop) (m : Bool) (te : TE) : TE := fun σ H Q => te σ H fun x H1 => ∃ ρ s d, SR L ρ s H1 ∧ VR L.K ρ H1 d x ∧ Good L (VR L.K) W ρ H1 Q (cRev m d s)
theorem pe_rev {X : Cx} {L : Lk} {W : Nat → Hp → Prop} {m : Bool} {e : Expr} {te : TE} {k : Nat} {p1 p2 p3 pos : Pos} (hK : X.K = L.K) (he : PE X e te) : PE X (.Subscript e (.Slice none none (some (.UnaryOp .USub (.Constant (.int 1) k p1) p2)) p3) pos) (tRev L W m te) := by
  refine ⟨fun pins s σ H Q I h => ?_⟩
  refine Subscript_ (thn (he.run pins s σ H _ I h) fun v s1 ⟨x, H1, I1, r1, q1⟩ => ?_)
  obtain ⟨ρ, st, d, sr, hd, g⟩ := q1
  have hst : PO X (some (.UnaryOp .USub (.Constant (.int 1) k p1) p2)) (tPart (tUn (rU fun i => .int (-i)) (tC (.int 1)))) := po_some (pe_un un_neg pe_int)
  refine wpAny_Slice (thn (po_none.run pins s1 σ H1 (fun o H2 => o = none ∧ H2 = H1) I1 ⟨rfl, rfl⟩) fun vl s2 ⟨l, H2, I2, pl, el, e2⟩ => ?_)
  subst el e2
  refine thn (po_none.run pins s2 σ H2 (fun o H3 => o = none ∧ H3 = H2) I2 ⟨rfl, rfl⟩) fun vu s3 ⟨u, H3, I3, pu, eu, e3⟩ => ?_
  subst eu e3
  refine thn (hst.run pins s3 σ H3 (fun o H4 => o = some (-1) ∧ H4 = H3) I3 ⟨1, rfl, -1, rfl, rfl, rfl⟩) fun vs s4 ⟨o, H4, I4, ps, eo, e4⟩ => ?_
  subst eo e4
  have I5 : Inv X pins σ H4 { s4 with heap := s4.heap.push { cls := .type "slice", data := .fields #[vl, vu, vs] } } := I4.kept (t' := s4.toks) fun b ob q => Heap.get?_push_of_some _ q
  unfold cRev at g
  split at g
  · obtain ⟨rfl, hl, ho⟩ := hd.str
    obtain ⟨t, rfl⟩ := r1
    cases pl; cases pu; cases ps
    refine tail_any (ops := [.str _ t, .ref s4.heap.objs.size]) (typeIs_str _ _ _) (F.slot_str_getitem.lookup) ?_ (by with_unfolding_all rfl)
    refine getItem_str_rev (Heap.IsSliceOf.new _ _ _ _) hl fun t' k => ⟨.str _, H4, I5.tok k, ⟨t', rfl⟩, g.here sr (vStr ?_ (strOk_sub ho fun c hc => by simpa using hc))⟩
    show (List.toArray _).size ≤ sizeLine
    rw [List.size_toArray, List.length_reverse, Array.length_toList]
    exact hl
  · obtain ⟨a, xs, rfl, h1, hl, p⟩ := VF.tup_iff.mp (VR.f_iff.mp hd)
    obtain rfl : v = Value.ref a := r1
    have hx : SqT X.K H4 a xs := by rw [hK]; exact VF.sqT h1
    obtain ⟨its, r, ht, hz⟩ := I5.tuple hx
    cases pl; cases pu
    refine tail_any (ops := [.ref a, .ref s4.heap.objs.size]) ht.typeIs (PyProof.Rows.slot_tuple_getitem.lookup) ?_ (by with_unfolding_all rfl)
    refine getItem_tuple_rev ht (Heap.IsSliceOf.new _ _ _ _) ps ?_ (by rw [← r.length]; exact hz)
    have hf := I5.hok.fresh (Nat.le_refl _)
    refine ⟨.ref _, _, I5.laid (t' := s4.toks) (o := .tup xs.reverse) (fun b ob q => Heap.get?_push_of_some _ q) (Nat.le_refl _) ?_, rfl, g.new sr hf (VR.f_iff.mpr (VF.tup_iff.mpr ⟨_, _, rfl, ⟨upd_same, sr.free hf⟩, by rw [List.length_reverse]; exact hl, FL.mono (prev p) (Ex.fresh sr hf)⟩))⟩
    exact ⟨by rw [List.length_reverse]; exact hz, _, r.reverse, IsTup.new _ _⟩
  · split at g
    · rename_i l hl
      obtain ⟨a, xs, rfl, q, p⟩ := seqL_ok hl sr hd
      obtain rfl : v = Value.ref a := r1
      obtain ⟨_, kk⟩ := newL_ok g sr (prev p)
      rw [← hK] at q
      obtain ⟨its, r, ht, hz⟩ := I5.list q
      refine tail_any (ops := [.ref a, .ref s4.heap.objs.size]) ht.isList.typeIs (PySem.slot_list_getitem.lookup) ?_ (by with_unfolding_all rfl)
      refine wpAny_getItem_list_slice ht.isList (Heap.IsSliceOf.new _ vl vu vs) pl pu ps (by decide) ?_ (by rw [List.size_toArray, ← r.length]; exact hz)
      rw [PySem.W.krv_pick]
      refine ⟨.ref _, _, I5.laid (t' := s4.toks) (o := .lst xs.reverse) (fun b ob q => Heap.get?_push_of_some _ q) (Nat.le_refl _) ?_, rfl, kk _ (I5.hok.fresh (Nat.le_refl _))⟩
      exact ⟨by rw [List.length_reverse]; exact hz, _, 0, r.reverse, Heap.get?_push_size _ rfl⟩
    · exact g.elim
end JM

set_option autoImplicit false
/-! J5: built-in functions and methods of built-in types, by data. -/
namespace JM
open PySem PySem.Spec PyProof.Rows L2

def strI (i : Int) : Str := Str.ofString (toString i)
/-- the built-in functions that are called by name -/
inductive Bi where
  | len | str | int | tuple | list (m : Bool) | all | abs | max2 | min2 | sum | dict
def boolsOf : List D → Option (List Bool)
  | [] => some []
  | .f (.bl b) :: r => (boolsOf r).map (b :: ·)
  | _ => none
def intsOf : List D → Option (List Int)
  | [] => some []
  | .f (.int b) :: r => (intsOf r).map (b :: ·)
  | _ => none
def strsOf : List D → Option (List Str)
  | [] => some []
  | .f (.str b) :: r => (strsOf r).map (b :: ·)
  | _ => none
def seqA (d : D) (s : Sto) : Option (List D) := (seqL d s).or (seqT d)
def lenD (d : D) (s : Sto) : Option Nat := match d with
  | .f (.str z) => some z.length
  | .loc n => match s[n]? with | some (.lst l) => some l.length | some (.dK l) => some l.length | _ => none
  | d => (seqA d s).map (·.length)
/-- a dict's pairs, keys ints and texts -/
def dctA (d : D) (s : Sto) : Option (List (Key × D)) := match d with
  | .f (.dct l) => some (l.map fun p => (p.1, .f p.2))
  | .loc n => match s[n]? with | some (.dK l) => some l | _ => none
  | _ => none
def bi (b : Bi) (ds : List D) (s : Sto) : R D := match b, ds with
  | .len, [d] => (match lenD d s with | some n => .ok (.f (.int n)) s | none => .fail)
  | .str, [.f (.int i)] => if i.natAbs.log2 < 1920 ∧ (strI i).length ≤ sizeLine then .ok (.f (.str (strI i))) s else .fail
  | .str, [.f (.str z)] => .ok (.f (.str z)) s
  | .int, [.f (.int i)] => .ok (.f (.int i)) s
  | .int, [.f (.bl k)] => .ok (.f (.int (if k then 1 else 0))) s
  | .int, [.f (.str z)] => (match PySem.intText? z with | some n => if z.length ≤ 640 then .ok (.f (.int n)) s else .fail | none => .fail)
  | .tuple, [.f (.tup l)] => .ok (.f (.tup l)) s
  | .tuple, [.f (.ktup l)] => .ok (.f (.ktup l)) s
  | .tuple, [.tup l] => .ok (.tup l) s
  | .tuple, [d] => (match seqL d s with | some l => newT l s | none => .fail)
  | .list m, [d] => (match seqA d s with | some l => newL m l s | none => .fail)
  | .all, [d] => (match (seqL d s).bind boolsOf with | some bs => .ok (.f (.bl (bs.all id))) s | none => .fail)
  | .abs, [.f (.int i)] => .ok (.f (.int (if i < 0 then -i else i))) s
  | .max2, [.f (.int i), .f (.int j)] => .ok (.f (.int (if j > i then j else i))) s
  | .min2, [.f (.int i), .f (.int j)] => .ok (.f (.int (if j < i then j else i))) s
  | .sum, [d] => (match (seqL d s).bind intsOf with | some ns => .ok (.f (.int ns.sum)) s | none => .fail)
  | .dict, [d] => (match dctA d s with | some l => .ok (.loc s.length) (s ++ [.dK l]) | none => .fail)
  | _, _ => .fail
/-- a name's built-in -/
def Bi.val : Bi → String × Value
  | .len => ("len", .builtin "len") | .str => ("str", .type "str") | .int => ("int", .type "int") | .tuple => ("tuple", .type "tuple") | .list _ => ("list", .type "list")
  | .all => ("all", .builtin "all") | .abs => ("abs", .builtin "abs") | .max2 => ("max", .builtin "max") | .min2 => ("min", .builtin "min") | .sum => ("sum", .builtin "sum") | .dict => ("dict", .type "dict")
def rC (L : Lk) (W : Nat → Hp → Prop) (f : List D → Sto → R D) : List V → Hp → VK → Prop := fun vs H Q => ∃ ρ s ds, SR L ρ s H ∧ VL L.K ρ H ds vs ∧ Good L (VR L.K) W ρ H Q (f ds s)
section ops
variable {X : Cx} {L : Lk} {W : Nat → Hp → Prop}
theorem seqA_ok {ρ : Ro} {H : Hp} {s : Sto} {d : D} {l : List D} {v : V} (e : seqA d s = some l) (sr : SR L ρ s H) (h : VR L.K ρ H d v) : ∃ a xs, v = .ref a ∧ (SqL L.K H a xs ∨ SqT L.K H a xs) ∧ VL L.K ρ H l xs := by
  unfold seqA at e
  cases e1 : seqL d s with
  | some l' =>
    rw [e1] at e; cases e
    obtain ⟨a, xs, hv, q, p⟩ := seqL_ok e1 sr h
    exact ⟨a, xs, hv, .inl q, p⟩
  | none =>
    rw [e1] at e
    obtain ⟨a, xs, hv, q, p, _⟩ := seqT_ok (show seqT d = some l from e) h
    exact ⟨a, xs, hv, .inr q, p⟩
theorem boolsOf_ok {ρ : Ro} {H : Hp} : ∀ {l : List D} {xs : List V} {bs : List Bool}, VL L.K ρ H l xs → boolsOf l = some bs → xs = bs.map V.bl
  | _, _, _, .nil, e => by cases e; rfl
  | d :: r, _, bs, .cons h t, e => by
    unfold boolsOf at e
    split at e
    · rename_i z; cases z
    · rename_i b r' heq
      cases heq
      cases e2 : boolsOf r with
      | none => rw [e2] at e; cases e
      | some bs' => rw [e2] at e; cases e; rw [boolsOf_ok t e2, h.bl]; rfl
    · cases e
theorem intsOf_ok {ρ : Ro} {H : Hp} : ∀ {l : List D} {xs : List V} {bs : List Int}, VL L.K ρ H l xs → intsOf l = some bs → xs = bs.map V.int
  | _, _, _, .nil, e => by cases e; rfl
  | d :: r, _, bs, .cons h t, e => by
    unfold intsOf at e
    split at e
    · rename_i z; cases z
    · rename_i b r' heq
      cases heq
      cases e2 : intsOf r with
      | none => rw [e2] at e; cases e
      | some bs' => rw [e2] at e; cases e; rw [intsOf_ok t e2, h.int]; rfl
    · cases e
theorem strsOf_ok {ρ : Ro} {H : Hp} : ∀ {l : List D} {xs : List V} {bs : List Str}, VL L.K ρ H l xs → strsOf l = some bs → xs = bs.map V.str ∧ ∀ x ∈ bs, x.length ≤ sizeLine ∧ PyData.strOk x = true
  | _, _, _, .nil, e => by cases e; exact ⟨rfl, fun x h => by cases h⟩
  | d :: r, _, bs, .cons h t, e => by
    unfold strsOf at e
    split at e
    · rename_i z; cases z
    · rename_i b r' heq
      cases heq
      cases e2 : strsOf r with
      | none => rw [e2] at e; cases e
      | some bs' =>
        rw [e2] at e; cases e
        obtain ⟨q1, q2⟩ := strsOf_ok t e2
        obtain ⟨rfl, h1⟩ := h.str
        exact ⟨by rw [q1]; rfl, fun x hx => (List.mem_cons.mp hx).elim (fun z => by rw [z]; exact h1) (q2 x)⟩
    · cases e
theorem lenD_ok {ρ : Ro} {H : Hp} {s : Sto} {d : D} {n : Nat} {v : V} (e : lenD d s = some n) (sr : SR L ρ s H) (h : VR L.K ρ H d v) : LenV L.K v H n ∨ ∃ a kvs, v = .ref a ∧ H a = some (.dK kvs) ∧ n = kvs.length := by
  have fin : ∀ {a : Addr} {xs : List V} {l : List D}, (SqL L.K H a xs ∨ SqT L.K H a xs) → VL L.K ρ H l xs → LenV L.K (.ref a) H l.length := fun {a xs l} q p => by
    rcases q with q | q
    · exact .inl ⟨xs, q, p.length⟩
    · exact .inr ⟨xs, q, p.length⟩
  unfold lenD at e
  split at e
  · cases e
    obtain ⟨rfl, hl, _⟩ := h.str
    exact .inl ⟨hl, rfl⟩
  · split at e
    · rename_i hn
      cases e
      obtain ⟨a, rfl, _, xs, h1, p⟩ := sr.at h hn (by intro z; cases z)
      exact .inl (fin (.inl (.inl (.inl h1))) p)
    · rename_i hn
      cases e
      obtain ⟨a, rfl, _, xs, h1, p⟩ := sr.at h hn (by intro z; cases z)
      exact .inr ⟨a, xs, rfl, h1, p.length⟩
    · cases e
  · cases e1 : seqA d s with
    | none => rw [e1] at e; cases e
    | some l =>
      rw [e1] at e; cases e
      obtain ⟨a, xs, rfl, q, p⟩ := seqA_ok e1 sr h
      exact .inl (fin q p)
theorem dctA_ok {ρ : Ro} {H : Hp} {s : Sto} {d : D} {l : List (Key × D)} {v : V} (e : dctA d s = some l) (sr : SR L ρ s H) (h : VR L.K ρ H d v) : ∃ a xs, v = .ref a ∧ Rd H a (.dK xs) ∧ KVR (VR L.K ρ H) l xs := by
  unfold dctA at e
  split at e
  · cases e
    obtain ⟨a, xs, rfl, ⟨⟨od, h1⟩, _⟩, hl, p⟩ := VF.dct_iff.mp (VR.f_iff.mp h)
    refine ⟨a, xs, rfl, .inr ⟨od, h1⟩, ?_⟩
    clear h h1 hl
    induction p with
    | nil => exact .nil
    | cons h t ih => exact .cons ⟨h.1, VR.f_iff.mpr h.2⟩ ih
  · split at e
    · rename_i hn
      cases e
      obtain ⟨a, rfl, _, xs, h1, p⟩ := sr.at h hn (by intro z; cases z)
      exact ⟨a, xs, rfl, .inl h1, p⟩
    · cases e
  · cases e
theorem strOk_int (i : Int) : PyData.strOk (Str.ofString (toString i)) = true := by
  unfold PyData.strOk
  rw [Array.all_eq_true_iff_forall_mem]
  intro c hc
  have h2 : c ∈ (Str.ofString (toString i)).cps.toList := by simpa using hc
  have h3 : c ∈ (toString i).toList.map Char.toNat := by rw [← PyProof.Rows.signs_ofString]; exact h2
  obtain ⟨d, _, rfl⟩ := List.mem_map.mp h3
  have := d.valid
  have h4 : d.toNat < 0x110000 := by
    rcases this with h | ⟨_, h⟩
    · exact Nat.lt_trans h (by decide)
    · exact h
  exact decide_eq_true h4
theorem VL.one {ρ : Ro} {H : Hp} {d : D} {xs : List V} (p : VL L.K ρ H [d] xs) : ∃ x, xs = [x] ∧ VR L.K ρ H d x := by
  cases p with
  | cons h t => cases t; exact ⟨_, rfl, h⟩
theorem VL.two {ρ : Ro} {H : Hp} {d e : D} {xs : List V} (p : VL L.K ρ H [d, e] xs) : ∃ x y, xs = [x, y] ∧ VR L.K ρ H d x ∧ VR L.K ρ H e y := by
  cases p with
  | cons h t =>
    obtain ⟨y, rfl, k⟩ := VL.one t
    exact ⟨_, y, rfl, h, k⟩
theorem bi_ok (hK : X.K = L.K) (hc : X.calm = true) (b : Bi) : CallR X b.val.2 (rC L W (bi b)) := by
  rintro pins s σ H xs us Q I r ⟨ρ, st, ds, sr, p, g⟩
  unfold bi at g
  split at g
  · -- len
    obtain ⟨x, rfl, h⟩ := VL.one p
    split at g
    · rename_i hn
      rcases lenD_ok hn sr h with q | ⟨a, kvs, rfl, h1, rfl⟩
      · rw [← hK] at q
        exact call_len pins s σ H _ us Q I r ⟨x, _, rfl, q, g.here sr (vInt _)⟩
      · exact call_lenD pins s σ H _ us Q I r ⟨a, kvs, rfl, h1, g.here sr (vInt _)⟩
    · exact g.elim
  · obtain ⟨x, rfl, h⟩ := VL.one p
    obtain rfl := h.int
    split at g
    · rename_i hz
      exact call_str_int pins s σ H _ us Q I r ⟨_, rfl, hz.1, g.here sr (vStr hz.2 (strOk_int _))⟩
    · exact g.elim
  · obtain ⟨x, rfl, h⟩ := VL.one p
    have h0 := h
    obtain ⟨rfl, h1, h2⟩ := h.str
    exact SkE.call_str_str pins s σ H _ us Q I r ⟨_, rfl, g.here sr h0⟩
  · obtain ⟨x, rfl, h⟩ := VL.one p
    obtain rfl := h.int
    exact call_int1 pins s σ H _ us Q I r (.inl ⟨_, rfl, g.here sr (vInt _)⟩)
  · obtain ⟨x, rfl, h⟩ := VL.one p
    obtain rfl := h.bl
    exact call_int1 pins s σ H _ us Q I r (.inr ⟨_, rfl, g.here sr (vInt _)⟩)
  · obtain ⟨x, rfl, h⟩ := VL.one p
    obtain ⟨rfl, h1, h2⟩ := h.str
    split at g
    · rename_i n hn
      split at g
      · rename_i hz
        exact call_int_str pins s σ H _ us Q I r ⟨_, _, rfl, hn, hz, g.here sr (vInt _)⟩
      · exact g.elim
    · exact g.elim
  · obtain ⟨x, rfl, h⟩ := VL.one p
    obtain ⟨a, ys, rfl, h1, _⟩ := VF.tup_iff.mp (VR.f_iff.mp h)
    exact call_tupleT pins s σ H _ us Q I r ⟨a, ys, rfl, by rw [hK]; exact VF.sqT h1, g.here sr h⟩
  · obtain ⟨x, rfl, h⟩ := VL.one p
    obtain ⟨a, ys, rfl, h1, _⟩ := VF.ktup_iff.mp (VR.f_iff.mp h)
    exact call_tupleT pins s σ H _ us Q I r ⟨a, ys, rfl, by rw [hK]; exact .inr h1, g.here sr h⟩
  · obtain ⟨x, rfl, h⟩ := VL.one p
    obtain ⟨a, ys, rfl, h1, _⟩ := VR.tup_iff.mp h
    exact call_tupleT pins s σ H _ us Q I r ⟨a, ys, rfl, by rw [hK]; exact VF.sqT h1, g.here sr h⟩
  · obtain ⟨x, rfl, h⟩ := VL.one p
    split at g
    · rename_i l hl
      obtain ⟨a, ys, rfl, q, k⟩ := seqL_ok hl sr h
      rw [← hK] at q
      exact call_tuple_of pins s σ H _ us Q I r ⟨a, ys, rfl, .inl ⟨q, (newT_ok g sr k).2⟩⟩
    · exact g.elim
  · obtain ⟨x, rfl, h⟩ := VL.one p
    split at g
    · rename_i l hl
      obtain ⟨a, ys, rfl, q, k⟩ := seqA_ok hl sr h
      rw [← hK] at q
      exact call_list_of pins s σ H _ us Q I r ⟨a, ys, rfl, q, (newL_ok g sr k).2⟩
    · exact g.elim
  · obtain ⟨x, rfl, h⟩ := VL.one p
    split at g
    · rename_i bs hb
      cases hl : seqL _ st with
      | none => rw [hl] at hb; cases hb
      | some l =>
        rw [hl] at hb
        obtain ⟨a, ys, rfl, q, k⟩ := seqL_ok hl sr h
        rw [← hK, boolsOf_ok k hb] at q
        exact cr_all hc pins s σ H _ us Q I r ⟨a, bs, rfl, q, g.here sr (vBl _)⟩
    · exact g.elim
  · obtain ⟨x, rfl, h⟩ := VL.one p
    obtain rfl := h.int
    exact call_abs pins s σ H _ us Q I r ⟨_, rfl, g.here sr (vInt _)⟩
  · obtain ⟨x, y, rfl, h, h'⟩ := VL.two p
    obtain rfl := h.int; obtain rfl := h'.int
    exact call_max2 hc pins s σ H _ us Q I r ⟨_, _, rfl, g.here sr (vInt _)⟩
  · obtain ⟨x, y, rfl, h, h'⟩ := VL.two p
    obtain rfl := h.int; obtain rfl := h'.int
    exact call_min2 hc pins s σ H _ us Q I r ⟨_, _, rfl, g.here sr (vInt _)⟩
  · obtain ⟨x, rfl, h⟩ := VL.one p
    split at g
    · rename_i bs hb
      cases hl : seqL _ st with
      | none => rw [hl] at hb; cases hb
      | some l =>
        rw [hl] at hb
        obtain ⟨a, ys, rfl, q, k⟩ := seqL_ok hl sr h
        rw [← hK, intsOf_ok k hb] at q
        exact cr_sum hc pins s σ H _ us Q I r ⟨a, bs, rfl, q, g.here sr (vInt _)⟩
    · exact g.elim
  · obtain ⟨x, rfl, h⟩ := VL.one p
    split at g
    · rename_i l hl
      obtain ⟨a, ys, rfl, q, k⟩ := dctA_ok hl sr h
      refine call_dictD pins s σ H _ us Q I r ⟨a, ys, rfl, q, fun b hb => ?_⟩
      refine g.pushed sr hb ⟨ys, upd_same, k.mono (Ex.push sr hb)⟩ (VR.loc_iff.mpr (.inr ⟨b, ?_, rfl⟩))
      show (ρ.pl ++ [some b])[st.length]? = _
      rw [List.getElem?_append_right (by rw [sr.len]; exact Nat.le_refl _), sr.len, Nat.sub_self]; rfl
    · exact g.elim
  · exact g.elim
end ops
end JM

set_option autoImplicit false
/-! J5S: set(xs) of a list, a tuple of texts; how many there are. -/
namespace JM
open PySem PySem.Spec PyProof.Rows L2
open Builtin
/-- the texts met till then, each once -/
def met (xs : List Str) : Nat → List Str
  | 0 => []
  | i + 1 => if (met xs i).contains (xs.getD i Str.empty) then met xs i else met xs i ++ [xs.getD i Str.empty]
def dst (xs : List Str) : Nat := (met xs xs.length).length
theorem met_len (xs : List Str) : ∀ i, (met xs i).length ≤ i
  | 0 => Nat.le_refl _
  | i + 1 => by
    have := met_len xs i
    unfold met
    split
    · omega
    · rw [List.length_append, List.length_singleton]; omega
theorem met_any (xs : List Str) (i : Nat) (q : Str) : ((met xs i).contains q || decide (q = xs.getD i Str.empty)) = (met xs (i + 1)).contains q := by
  rw [met]
  split
  · rename_i h
    by_cases e : q = xs.getD i Str.empty
    · rw [e, h]; rfl
    · simp only [e, decide_false, Bool.or_false]
  · rw [Bool.eq_iff_iff]
    simp [List.contains_iff_mem, List.mem_append]
theorem met_cnt (xs : List Str) (i : Nat) : (if (met xs i).contains (xs.getD i Str.empty) = true then (met xs i).length else (met xs i).length + 1) = (met xs (i + 1)).length := by
  rw [met]
  split
  · rfl
  · rw [List.length_append, List.length_singleton]
theorem text_at : ∀ {us : List Value} {ys : List Str}, StrsAre us ys → ∀ (j : Nat) (u : Value), us[j]? = some u → ∃ t, u = .str (ys.getD j Str.empty) t
  | _, _, .nil, j, u, e => by simp at e
  | _, _, .cons n t r, 0, u, e => by simp at e; exact ⟨t, by rw [← e]; rfl⟩
  | _, _, .cons n t r, j + 1, u, e => by
    rw [List.getElem?_cons_succ] at e
    obtain ⟨t2, e2⟩ := text_at r j u e
    exact ⟨t2, by rw [e2]; rfl⟩
section
variable {P : Program} {w : World} {A : Around} {Rs : Result → Shared → Prop} {I : Addr} {fps wrs : List Addr} {G : Array GenState → Array GenState → Prop} {n : Nat} {Pv : Nat → Value → Prop} {Sx : Nat → Shared → Prop}
/-- one text behind the other goes in -/
theorem in_loop (W : WalksS P w A.in1 I fps wrs G n Pv Sx) (Z : Addr) (hZ : Z ∉ fps) (xs : List Str) (room : n + 1 < scanBound) (tx : ∀ i v, Pv i v → ∃ t, v = .str (xs.getD i Str.empty) t) :
    ∀ (todo i : Nat) (st : Shared), n - i = todo → i ≤ n → Sx i st → st.heap.SetOf (strKind P w) Z (fun q => (met xs i).contains q) (met xs i).length →
      (∀ z, Moved (Z :: wrs) G st z → z.heap.SetOf (strKind P w) Z (fun q => (met xs n).contains q) (met xs n).length → Rs (.ok (.ret .none)) z) →
      codeAny (model P w) A (.builtin "set.update.loop" ⟨[.ref Z, .ref I], []⟩) Rs st := by
  have zw : Z ∉ wrs := fun m => hZ (W.sub _ m)
  have more : ∀ b ∈ wrs, b ∈ Z :: wrs := fun b m => List.mem_cons_of_mem _ m
  intro todo
  induction todo with
  | zero =>
    intro i st ht hi hx hS fin
    obtain rfl : i = n := by omega
    refine codeAny_builtin PyProof.Rows.F.entry_set_update_loop ?_
    rw [Around.under_plainId PyProof.Rows.F.plain_set_update_loop _]
    refine wpAny_bind (W.done st _ _ hx fun z mv => ?_)
    obtain ⟨o, es, ep, tb, ho, rest⟩ := hS
    exact wpAny_pure (fin z (mv.mono more) ⟨o, es, ep, tb, mv.heap Z _ zw ho, rest⟩)
  | succ todo ih =>
    intro i st ht hi hx hS fin
    have lt : i < n := by omega
    refine codeAny_builtin PyProof.Rows.F.entry_set_update_loop ?_
    rw [Around.under_plainId PyProof.Rows.F.plain_set_update_loop _]
    refine wpAny_bind (W.item i st _ _ lt hx fun u z hu hx2 mv => ?_)
    obtain ⟨tk, rfl⟩ := tx i u hu
    have hS2 : z.heap.SetOf (strKind P w) Z (fun q => (met xs i).contains q) (met xs i).length := by
      obtain ⟨o, es, ep, tb, ho, rest⟩ := hS
      exact ⟨o, es, ep, tb, mv.heap Z _ zw ho, rest⟩
    refine wpAny_bind (wpAny_holding ?_)
    unfold setAdd
    refine wpAny_holding (wpAny_bind ((strKind P w).pyHash (k := xs.getD i Str.empty) (strKind_is _ _ _ _) ?_))
    have rm : (met xs i).length + 1 < scanBound := by have := met_len xs i; omega
    refine wpAny_setAddHashed_of (knd := strKind P w) (s := { z with toks := z.toks + 1 }) (strKind_is _ _ _ _) rfl hS2 rm fun hp same hS3 => ?_
    have hS4 := SetOf_congr (S' := fun q => (met xs (i + 1)).contains q) (n' := (met xs (i + 1)).length) hS3 (fun q => met_any xs i q) (met_cnt xs i)
    have still : ∀ b ∈ fps, ∀ o, z.heap.get? b = some o → hp.get? b = some o := fun b m o e => by
      rw [same.2 b (fun q => hZ (by rw [← q]; exact m))]; exact e
    refine wpAny_pure ⟨plainId_quiet PyProof.Rows.F.plain_set_update_loop _, ih (i + 1) _ (by omega) lt (W.frame _ z _ _ hx2 (Nat.le_succ _) still) hS4 fun z2 mv2 hS5 => fin z2 (Moved.trans W.gtrans ((mv.mono more).then_heap (Nat.le_succ _) fun b o m e => ?_) mv2) hS5⟩
    rw [same.2 b (fun q => m (by rw [q]; exact List.mem_cons_self))]
    exact e
end
section
variable {P : Program} {w : World} {A : Around} {E : Value → Shared → Prop} {st : Shared}
theorem set_of_tup {l : Addr} {us : Array Value} {xs : List Str} {Q : Value → Shared → Prop} (calm : A.handled = none) (at_ : st.heap.IsTuple l us) (tx : StrsAre us.toList xs) (room : xs.length + 1 < scanBound)
    (fin : ∀ (hp : Heap) (tk : Nat), hp.SetOf (strKind P w) st.heap.objs.size (fun q => (met xs us.size).contains q) (met xs us.size).length →
      (∀ b o, b < st.heap.objs.size → st.heap.get? b = some o → hp.get? b = some o) → Q (.ref st.heap.objs.size) { st with heap := hp, toks := tk }) : wpAny (model P w) A (call (.type "set") [.ref l]) Q E st := by
  obtain ⟨c0, c1, hmro⟩ := PySem.F.called_set.mro
  have f1 := PySem.F.called_set.made
  have f2 := PySem.F.called_set.sub
  have f3 := PySem.F.called_set.notType
  have f4 := PySem.F.called_set.canCreate
  have f5 := PySem.F.typeCall_set_1 (.ref l)
  refine wpAny_call (codeAny_of_tree ?_)
  show wpAny _ _ (callAny (.type "set") _) _ _ _
  refine wpAny_pure ⟨Code.quiet_builtin _ (by decide +kernel), codeAny_builtin PySem.F.entry_type_call ?_⟩
  rw [Around.under_plain (weight_type_call_type "set" [.ref l] []) rfl]
  repeat (any_goals (first | assumption | wp_step))
  refine codeAny_mono (code_set_new_1 (.ref l) (E := E)
    (Q₁ := fun ob z => ∃ led : Bool, ob = .ref st.heap.objs.size ∧ z = { st with heap := st.heap.push { cls := .type "set", dict := none, data := .set #[] 0 (.fresh 0 0 led) } })
    fun led => ⟨led, rfl, rfl⟩) fun r z hr => ?_
  cases r with
  | error e => exact hr
  | ok fl =>
    cases fl with
    | next => exact hr.elim
    | brk => exact hr.elim
    | cont => exact hr.elim
    | ret ob =>
      obtain ⟨led, rfl, rfl⟩ := hr
      generalize hn : ({ cls := .type "set", dict := none, data := .set #[] 0 (.fresh 0 0 led) } : Obj) = new
      have g0 : (st.heap.push new).get? st.heap.objs.size = some new := by rw [← hn]; exact Heap.get?_push_size _ rfl
      have ty : Shared.TypeIs { st with heap := st.heap.push new } (.ref st.heap.objs.size) "set" := ⟨_, g0, by rw [← hn]⟩
      have f6 := PySem.F.called_set.init.lookup
      have f7 := PySem.F.called_set.init.bind (.ref st.heap.objs.size)
      repeat (any_goals (first | assumption | wp_step))
      refine codeAny_mono (codeAny_call_builtin (R := wants (fun r z => r = .none ∧ ∃ hp tk, z = { st with heap := hp, toks := tk } ∧
          hp.SetOf (strKind P w) st.heap.objs.size (fun q => (met xs us.size).contains q) (met xs us.size).length ∧
          (∀ b o, b < st.heap.objs.size → st.heap.get? b = some o → hp.get? b = some o)) E) PySem.F.called_set.init.plain PySem.F.entry_set_init (check_set_init_1 ty ?_)) fun r2 z2 h2 => ?_
      · obtain ⟨ol, hol, hcl, nl, hdl⟩ := at_
        obtain ⟨ocl, odi, oda, osl⟩ := ol
        simp only at hcl hdl
        subst hcl; subst hdl
        have g1 : (st.heap.push new).IsTuple l us := ⟨_, Heap.get?_push_of_some _ hol, rfl, nl, rfl⟩
        have f8 := PySem.F.sub_tuple_set
        have f9 := PySem.F.sub_tuple_frozenset
        have fa : (Value.type "tuple" == Value.type "dict") = false := by decide
        have g2 : (st.heap.push new).get? l = some { cls := .type "tuple", dict := odi, data := .seq us nl, slots := osl } := Heap.get?_push_of_some _ hol
        subst hn
        unfold Builtin.«set.__init__» noKeywords Builtin.Frozenset.updateFrom
        generalize hit : pyIter = iter
        wp_walk
        subst hit
        generalize hn : ({ cls := .type "set", dict := none, data := .set #[] 0 (.fresh 0 0 led) } : Obj) = new at *
        refine wpAny_pyIter_tuple g1 ?_
        refine wpAny_bind ?_
        refine wpAny_runValue ?_
        have below : l < st.heap.objs.size := Heap.lt_size hol
        have sz : (st.heap.push new).objs.size = st.heap.objs.size + 1 := Heap.size_push ..
        have quiet : A.in1.in1.in1.handled = none := by simp [calm]
        have len : xs.length = us.size := by rw [← StrsAre.len_eq tx, Array.length_toList]
        have apart : l ≠ (st.heap.push new).objs.size := by rw [sz]; exact Nat.ne_of_lt (Nat.lt_succ_of_lt below)
        have out : st.heap.objs.size ∉ [(st.heap.push new).objs.size, l] := by
          rw [sz]
          simp only [List.mem_cons, List.not_mem_nil, or_false, not_or]
          exact ⟨Nat.ne_of_lt (Nat.lt_succ_self _), Nat.ne_of_gt below⟩
        refine in_loop ((Walks.tuple quiet _ l apart us).toS) st.heap.objs.size out xs (by rw [← len]; exact room) (fun i v hv => text_at tx i v (by rw [Array.getElem?_toList]; exact hv)) (us.size - 0) 0 _ (by omega) (Nat.zero_le _)
          ⟨⟨_, Heap.get?_push_size _ rfl, rfl, rfl⟩, g1.push _⟩ ?_ ?_
        · have g3 := Heap.get?_push_of_some ({ cls := .type "tuple_iterator", data := .fields #[.ref l, .int 0 0] } : Obj) g0
          rw [← hn] at g3
          have g4 := (setObjOf_fresh (knd := strKind P w) led).setOf g3 (by unfold scanBound; omega)
          rw [hn] at g4
          exact SetOf_congr g4 (fun _ => rfl) rfl
        · intro z mv hS
          obtain ⟨hp, gg, dw, tk, os⟩ := z
          obtain rfl : gg = st.gens := mv.gens
          obtain rfl : dw = st.drawn := mv.drawn
          obtain rfl : os = st.os := mv.os
          refine wpAny_pure (wpAny_pure ⟨rfl, hp, tk, rfl, hS, fun b o hb e => mv.heap b o ?_ (Heap.get?_push_of_some _ (Heap.get?_push_of_some _ e))⟩)
          rw [sz]
          simp only [List.mem_cons, List.not_mem_nil, or_false, not_or]
          exact ⟨Nat.ne_of_lt hb, Nat.ne_of_lt (Nat.lt_succ_of_lt hb)⟩
      · cases r2 with
        | error e => exact h2
        | ok f2 =>
          cases f2 with
          | next => exact h2.elim
          | brk => exact h2.elim
          | cont => exact h2.elim
          | ret r =>
            obtain ⟨rfl, hp, tk, rfl, k1, k2⟩ := h2
            repeat (any_goals (first | assumption | wp_step))
            exact fin _ _ k1 k2
end
section
variable {P : Program} {w : World} {A : Around} {E : Value → Shared → Prop} {st : Shared}
theorem set_of_lst {l : Addr} {us : Array Value} {xs : List Str} {Q : Value → Shared → Prop} (calm : A.handled = none) (at_ : st.heap.IsList l us) (tx : StrsAre us.toList xs) (room : xs.length + 1 < scanBound)
    (fin : ∀ (hp : Heap) (tk : Nat), hp.SetOf (strKind P w) st.heap.objs.size (fun q => (met xs us.size).contains q) (met xs us.size).length →
      (∀ b o, b < st.heap.objs.size → st.heap.get? b = some o → hp.get? b = some o) → Q (.ref st.heap.objs.size) { st with heap := hp, toks := tk }) : wpAny (model P w) A (call (.type "set") [.ref l]) Q E st := by
  obtain ⟨c0, c1, hmro⟩ := PySem.F.called_set.mro
  have f1 := PySem.F.called_set.made
  have f2 := PySem.F.called_set.sub
  have f3 := PySem.F.called_set.notType
  have f4 := PySem.F.called_set.canCreate
  have f5 := PySem.F.typeCall_set_1 (.ref l)
  refine wpAny_call (codeAny_of_tree ?_)
  show wpAny _ _ (callAny (.type "set") _) _ _ _
  refine wpAny_pure ⟨Code.quiet_builtin _ (by decide +kernel), codeAny_builtin PySem.F.entry_type_call ?_⟩
  rw [Around.under_plain (weight_type_call_type "set" [.ref l] []) rfl]
  repeat (any_goals (first | assumption | wp_step))
  refine codeAny_mono (code_set_new_1 (.ref l) (E := E)
    (Q₁ := fun ob z => ∃ led : Bool, ob = .ref st.heap.objs.size ∧ z = { st with heap := st.heap.push { cls := .type "set", dict := none, data := .set #[] 0 (.fresh 0 0 led) } })
    fun led => ⟨led, rfl, rfl⟩) fun r z hr => ?_
  cases r with
  | error e => exact hr
  | ok fl =>
    cases fl with
    | next => exact hr.elim
    | brk => exact hr.elim
    | cont => exact hr.elim
    | ret ob =>
      obtain ⟨led, rfl, rfl⟩ := hr
      generalize hn : ({ cls := .type "set", dict := none, data := .set #[] 0 (.fresh 0 0 led) } : Obj) = new
      have g0 : (st.heap.push new).get? st.heap.objs.size = some new := by rw [← hn]; exact Heap.get?_push_size _ rfl
      have ty : Shared.TypeIs { st with heap := st.heap.push new } (.ref st.heap.objs.size) "set" := ⟨_, g0, by rw [← hn]⟩
      have f6 := PySem.F.called_set.init.lookup
      have f7 := PySem.F.called_set.init.bind (.ref st.heap.objs.size)
      repeat (any_goals (first | assumption | wp_step))
      refine codeAny_mono (codeAny_call_builtin (R := wants (fun r z => r = .none ∧ ∃ hp tk, z = { st with heap := hp, toks := tk } ∧
          hp.SetOf (strKind P w) st.heap.objs.size (fun q => (met xs us.size).contains q) (met xs us.size).length ∧
          (∀ b o, b < st.heap.objs.size → st.heap.get? b = some o → hp.get? b = some o)) E) PySem.F.called_set.init.plain PySem.F.entry_set_init (check_set_init_1 ty ?_)) fun r2 z2 h2 => ?_
      · obtain ⟨ol, hol, hcl, nl, hdl⟩ := at_
        obtain ⟨ocl, odi, oda, osl⟩ := ol
        simp only at hcl hdl
        subst hcl; subst hdl
        have g1 : (st.heap.push new).IsList l us := ⟨_, Heap.get?_push_of_some _ hol, rfl, nl, rfl⟩
        have f8 := PySem.F.sub_list_set
        have f9 := PySem.F.sub_list_frozenset
        have fa : (Value.type "list" == Value.type "dict") = false := by decide
        have g2 : (st.heap.push new).get? l = some { cls := .type "list", dict := odi, data := .seq us nl, slots := osl } := Heap.get?_push_of_some _ hol
        subst hn
        unfold Builtin.«set.__init__» noKeywords Builtin.Frozenset.updateFrom
        generalize hit : pyIter = iter
        wp_walk
        subst hit
        generalize hn : ({ cls := .type "set", dict := none, data := .set #[] 0 (.fresh 0 0 led) } : Obj) = new at *
        refine wpAny_pyIter_list g1 ?_
        refine wpAny_bind ?_
        refine wpAny_runValue ?_
        have below : l < st.heap.objs.size := Heap.lt_size hol
        have sz : (st.heap.push new).objs.size = st.heap.objs.size + 1 := Heap.size_push ..
        have quiet : A.in1.in1.in1.handled = none := by simp [calm]
        have len : xs.length = us.size := by rw [← StrsAre.len_eq tx, Array.length_toList]
        have apart : l ≠ (st.heap.push new).objs.size := by rw [sz]; exact Nat.ne_of_lt (Nat.lt_succ_of_lt below)
        have out : st.heap.objs.size ∉ [(st.heap.push new).objs.size, l] := by
          rw [sz]
          simp only [List.mem_cons, List.not_mem_nil, or_false, not_or]
          exact ⟨Nat.ne_of_lt (Nat.lt_succ_self _), Nat.ne_of_gt below⟩
        refine in_loop ((Walks.list quiet _ l apart us).toS) st.heap.objs.size out xs (by rw [← len]; exact room) (fun i v hv => text_at tx i v (by rw [Array.getElem?_toList]; exact hv)) (us.size - 0) 0 _ (by omega) (Nat.zero_le _)
          ⟨⟨_, Heap.get?_push_size _ rfl, rfl, rfl⟩, g1.push _⟩ ?_ ?_
        · have g3 := Heap.get?_push_of_some ({ cls := .type "list_iterator", data := .fields #[.ref l, .int 0 0] } : Obj) g0
          rw [← hn] at g3
          have g4 := (setObjOf_fresh (knd := strKind P w) led).setOf g3 (by unfold scanBound; omega)
          rw [hn] at g4
          exact SetOf_congr g4 (fun _ => rfl) rfl
        · intro z mv hS
          obtain ⟨hp, gg, dw, tk, os⟩ := z
          obtain rfl : gg = st.gens := mv.gens
          obtain rfl : dw = st.drawn := mv.drawn
          obtain rfl : os = st.os := mv.os
          refine wpAny_pure (wpAny_pure ⟨rfl, hp, tk, rfl, hS, fun b o hb e => mv.heap b o ?_ (Heap.get?_push_of_some _ (Heap.get?_push_of_some _ e))⟩)
          rw [sz]
          simp only [List.mem_cons, List.not_mem_nil, or_false, not_or]
          exact ⟨Nat.ne_of_lt hb, Nat.ne_of_lt (Nat.lt_succ_of_lt hb)⟩
      · cases r2 with
        | error e => exact h2
        | ok f2 =>
          cases f2 with
          | next => exact h2.elim
          | brk => exact h2.elim
          | cont => exact h2.elim
          | ret r =>
            obtain ⟨rfl, hp, tk, rfl, k1, k2⟩ := h2
            repeat (any_goals (first | assumption | wp_step))
            exact fin _ _ k1 k2
end
end JM

set_option autoImplicit false
/-! J6: the small language and what it does. -/
namespace JM
open PySem PySem.Spec PyProof.Rows L2

inductive BO where | add (m : Bool) | sub | mul (m : Bool) | fdiv | mod | pow
inductive CO where | eq | ne | lt | le | gt | ge | isin | nin | is_ | nis
inductive Ty where | int | str | bool | tuple | list
/-- methods of built-in types -/
inductive Bm where | append | pop | extend | clear | split (m : Bool) | find | upper | join | get1 | get2
/-- a target: one slot, or some -/
inductive Pat where | one (i : Nat) | tup (l : List Nat)

mutual
inductive E where
  | k (d : F)
  | g (x : Str) (d : F)
  | v (i : Nat)
  | bin (o : BO) (a b : E)
  | neg (a : E)
  | cmp (o : CO) (a b : E)
  | chn (o o' : CO) (a b c : E)
  | and (l : List E)
  | or (l : List E)
  | not (a : E)
  | ite (c a b : E)
  | tup (l : List E)
  | lst (m : Bool) (l : List E)
  | dic (t : Bool)
  | idx (a i : E)
  | sl (m : Bool) (a : E) (lo hi : Option E)
  | rev (m : Bool) (a : E)
  | call (f : Nat) (l : List E)
  | calli (f : Nat) (l : List E)
  | make (c f : Nat) (l : List E)
  | fld (c i : Nat) (o : E)
  | meth (c f : Nat) (o : E) (l : List E)
  | bi (b : Bi) (l : List E)
  | bm (b : Bm) (o : E) (l : List E)
  | isi (a : E) (t : Ty)
  | isiT (a : E) (t : List Ty)
  | lc (m : Bool) (it : It) (p : Pat) (c : Option E) (e : E)
  | dst (a : E)
  | fz (i : Nat)
inductive It where
  | seq (e : E)
  | rng1 (a : E)
  | rng2 (a b : E)
  | enm (a : E)
  | zip (a b : E)
  | rev (a : E)
end
inductive S where
  | set (i : Nat) (e : E)
  | unp (l : List Nat) (e : E)
  | fset (c i : Nat) (o e : E)
  | iset (o i e : E)
  | ret (e : E)
  | retN
  | ex (e : E)
  | ite (c : E) (a b : List S)
  | for_ (p : Pat) (it : It) (b : List S)
  | while_ (c : E) (b : List S)
  | brk
  | cnt
  | pas
  | raise (x : Nat)
  | try_ (b : List S) (x : Nat) (i : Option Nat) (h : List S)

/-! ### operators -/
def BO.ev : BO → D → D → Sto → R D
  | .add m => bAdd m | .sub => bSub | .mul m => bMul m | .fdiv => bFdiv | .mod => bMod | .pow => bPow
def CO.ev : CO → D → D → Sto → R D
  | .eq => cEq | .ne => cNe | .lt => cLt | .le => cLe | .gt => cGt | .ge => cGe | .isin => cIn | .nin => cNin | .is_ => cIs | .nis => cNis
def negD : D → Sto → R D
  | .f (.int i), s => .ok (.f (.int (-i))) s
  | _, _ => .fail
def tyIs (t : Ty) : F → Bool
  | .bl _ => (match t with | .int => true | .bool => true | _ => false)
  | .int _ => (match t with | .int => true | _ => false)
  | .str _ => (match t with | .str => true | _ => false)
  | .tup _ => (match t with | .tuple => true | _ => false)
  | .ktup _ => (match t with | .tuple => true | _ => false)
  | .lst _ => (match t with | .list => true | _ => false)
  | .scr _ => (match t with | .list => true | _ => false)
  | _ => false
def isiD (d : D) (ts : List Ty) (s : Sto) : R D := match d with
  | .f (.dct _) => .fail
  | .f (.scr _) => .fail
  | .f x => .ok (.f (.bl (ts.any fun t => tyIs t x))) s
  | _ => .fail
/-- the methods of built-in types -/
def bm (b : Bm) (d : D) (ds : List D) (s : Sto) : R D := match b, d, ds with
  | .append, .loc n, [x] => (match s[n]? with | some (.lst l) => if l.length < sizeLine then .ok (.f .non) (s.set n (.lst (l ++ [x]))) else .fail | _ => .fail)
  | .pop, .loc n, [] => (match s[n]? with | some (.lst l) => (match l[l.length - 1]? with | some y => .ok y (s.set n (.lst l.dropLast)) | none => .fail) | _ => .fail)
  | .clear, .loc n, [] => (match s[n]? with | some (.lst l) => .ok (.f .non) (s.set n (.lst [])) | _ => .fail)
  | .split m, .f (.str a), [.f (.str b)] => if (b.length == 0) = false ∧ a.length + 2 ≤ sizeLine ∧ ((Txt.split a b).all fun x => decide (x.length ≤ sizeLine) && PyData.strOk x) = true then newL m ((Txt.split a b).map fun x => .f (.str x)) s else .fail
  | .find, .f (.str a), [.f (.str b)] => .ok (.f (.int (Txt.find a b))) s
  | .upper, .f (.str a), [] => if a.length ≤ 5592405 ∧ (Txt.upper a).length ≤ sizeLine ∧ PyData.strOk (Txt.upper a) = true then .ok (.f (.str (Txt.upper a))) s else .fail
  | .join, .f (.str a), [d] => (match (seqA d s).bind strsOf with
    | some ys => if (ys.map (·.length)).sum + ys.length * a.length ≤ 16777216 ∧ (Txt.join a ys).length ≤ sizeLine ∧ PyData.strOk (Txt.join a ys) = true then .ok (.f (.str (Txt.join a ys))) s else .fail
    | none => .fail)
  | .get1, d, [k] => (match dGet d k s with | some (some v) => .ok v s | some none => .ok (.f .non) s | none => .fail)
  | .get2, d, [k, x] => (match dGet d k s with | some (some v) => .ok v s | some none => .ok x s | none => .fail)
  | _, _, _ => .fail
/-- the receiver's type -/
def bmTy (b : Bm) (d : D) (s : Sto) : Bool := match b, d with
  | .split _, .f (.str _) => true
  | .find, .f (.str _) => true
  | .upper, .f (.str _) => true
  | .join, .f (.str _) => true
  | .append, .loc n => (match s[n]? with | some (.lst _) => true | _ => false)
  | .pop, .loc n => (match s[n]? with | some (.lst _) => true | _ => false)
  | .extend, .loc n => (match s[n]? with | some (.lst _) => true | _ => false)
  | .clear, .loc n => (match s[n]? with | some (.lst _) => true | _ => false)
  | .get1, .f (.dct _) => true
  | .get2, .f (.dct _) => true
  | .get1, .loc n => (match s[n]? with | some (.dK _) => true | some (.dT _) => true | _ => false)
  | .get2, .loc n => (match s[n]? with | some (.dK _) => true | some (.dT _) => true | _ => false)
  | _, _ => false
def allFK {κ : Type} : List (κ × D) → Option (List (κ × F))
  | [] => some []
  | (k, .f x) :: r => (allFK r).map ((k, x) :: ·)
  | _ :: _ => none
/-- a call that keeps the caller's store: only frozen data go in and come out -/
def pureR (s : Sto) : R D → R D
  | .ok (.f y) _ => .ok (.f y) s
  | .ok (.loc n) t => (match t[n]? with
    | some (.lst l) => if l.length ≤ sizeLine then (match allF l with | some fs => .ok (.f (.lst fs)) s | none => .fail) else .fail
    | some (.dK l) => if l.length ≤ sizeLine then (match allFK l with | some fs => .ok (.f (.dct fs)) s | none => .fail) else .fail
    | _ => .fail)
  | .exc x _ => .exc x s
  | _ => .fail
def noexc {α : Type} : R α → R α
  | .ok a s => .ok a s
  | _ => .fail
def bindP (p : Pat) (d : D) (s : Sto) (env : Env') : Option Env' := match p with
  | .one i => some (env.set i (some d))
  | .tup is => match seqT d with
    | some l => if l.length = is.length then some ((is.zip l).foldl (fun env q => env.set q.1 (some q.2)) env) else none
    | none => none
/-- items, one behind the other; what is made of them -/
def mapR (f : D → Sto → R (Option D)) : List D → Sto → R (List D)
  | [], s => .ok [] s
  | x :: r, s => (f x s).bind fun o s => (mapR f r s).bind fun ys s => .ok (match o with | some y => y :: ys | none => ys) s
def enmL (l : List D) : List D := (l.zipIdx).map fun q => match q.1 with
  | .f x => .f (.tup [.int (q.2 : Nat), x])
  | d => .tup [.f (.int (q.2 : Nat)), d]
def zipL (l m : List D) : List D := (l.zip m).map fun q => match q.1, q.2 with
  | .f x, .f y => .f (.tup [x, y])
  | d, e => .tup [d, e]
def rngL (lo : Int) (n : Nat) : List D := (List.range n).map fun (i : Nat) => .f (.int (lo + (i : Int)))
def kF : Key → F
  | .inl i => .int i
  | .inr z => .str z
def keyOk : Key → Bool
  | .inl _ => true
  | .inr z => decide (z.length ≤ sizeLine) && PyData.strOk z
/-- a dict's place given up: nobody changes it any more -/
def fzD (env : Env') (i : Nat) (s : Sto) : R D := match env[i]? with
  | some (some (.loc n)) => (match s[n]? with
    | some (.dK l) => if l.length ≤ sizeLine then (match allFK l with | some fs => .ok (.f (.dct fs)) (s.set n .dead) | none => .fail) else .fail
    | _ => .fail)
  | _ => .fail
/-- what a for walks over: frozen things alone -/
def itemsD (d : D) : Option (List D) := match d with
  | .f (.str z) => some (z.cps.toList.map fun c => .f (.str (one c)))
  | .f (.lst l) => some (l.map .f)
  | .f (.scr l) => some (l.map fun i => .f (.int i))
  | .f (.dct l) => if (l.all fun p => keyOk p.1) = true then some (l.map fun p => .f (kF p.1)) else none
  | d => seqT d
def frzL (d : D) : Option (List D) := match d with
  | .f (.lst l) => some (l.map .f)
  | .f (.scr l) => some (l.map fun i => .f (.int i))
  | _ => none
def inRng (i : Int) : Bool := decide (-(2 ^ 62) ≤ i) && decide (i < 2 ^ 62)

/-- how many texts there are, each once -/
def dstD (d : D) (s : Sto) : R D := match (seqA d s).bind strsOf with
  | some ys => if ys.length ≤ 1000 then .ok (.f (.int (dst ys : Nat))) s else .fail
  | none => .fail
section eval
variable (call mk : Nat → List D → Sto → R D)
mutual
def evE : E → Env' → Sto → R D
  | .k d, _, s => .ok (.f d) s
  | .g _ d, _, s => .ok (.f d) s
  | .v i, env, s => (match env[i]? with | some (some d) => .ok d s | _ => .fail)
  | .bin o a b, env, s => (evE a env s).bind fun d s => (evE b env s).bind fun e s => o.ev d e s
  | .neg a, env, s => (evE a env s).bind fun d s => negD d s
  | .cmp o a b, env, s => (evE a env s).bind fun d s => (evE b env s).bind fun e s => o.ev d e s
  | .chn o o' a b c, env, s => (evE a env s).bind fun d s => (evE b env s).bind fun e s => (o.ev d e s).bind fun r s => (match r with
    | .f (.bl true) => (evE c env s).bind fun x s => o'.ev e x s
    | .f (.bl false) => .ok (.f (.bl false)) s
    | _ => .fail)
  | .and l, env, s => evAnd l env s
  | .or l, env, s => evOr l env s
  | .not a, env, s => (evE a env s).bind fun d s => (match d with | .f (.bl b) => .ok (.f (.bl !b)) s | _ => .fail)
  | .ite c a b, env, s => (evE c env s).bind fun d s => (match d with | .f (.bl true) => evE a env s | .f (.bl false) => evE b env s | _ => .fail)
  | .tup l, env, s => (evEs l env s).bind fun ds s => newT ds s
  | .lst m l, env, s => (evEs l env s).bind fun ds s => newL m ds s
  | .dic t, _, s => .ok (.loc s.length) (s ++ [if t then .dT [] else .dK []])
  | .idx a i, env, s => (evE a env s).bind fun d s => (evE i env s).bind fun e s => cIdx d e s
  | .sl m a lo hi, env, s => (evE a env s).bind fun d s => (evO lo env s).bind fun l s => (evO hi env s).bind fun h s => cSl m d l h s
  | .rev m a, env, s => (evE a env s).bind fun d s => cRev m d s
  | .call f l, env, s => (evEs l env s).bind fun ds s => (match allF ds with | some _ => pureR s (call f ds []) | none => .fail)
  | .calli f l, env, s => (evEs l env s).bind fun ds s => call f ds s
  | .make c f l, env, s => (evEs l env s).bind fun ds s => (mk f (.loc s.length :: ds) (s ++ [.ins c []])).bind fun d t => (match d with | .f .non => .ok (.loc s.length) t | _ => .fail)
  | .fld c i o, env, s => (evE o env s).bind fun d s => (match d with
    | .loc n => (match s[n]? with | some (.ins c' l) => if c' = c then (match l[i]? with | some v => .ok v s | none => .fail) else .fail | _ => .fail)
    | _ => .fail)
  | .meth c f o l, env, s => (evE o env s).bind fun d s => (match d with
    | .loc n => (match s[n]? with | some (.ins c' _) => if c' = c then (evEs l env s).bind fun ds s => call f (.loc n :: ds) s else .fail | _ => .fail)
    | _ => .fail)
  | .bi b l, env, s => (evEs l env s).bind fun ds s => bi b ds s
  | .bm b o l, env, s => (evE o env s).bind fun d s => if bmTy b d s then (evEs l env s).bind fun ds s => bm b d ds s else .fail
  | .isi a t, env, s => (evE a env s).bind fun d s => isiD d [t] s
  | .isiT a ts, env, s => (evE a env s).bind fun d s => isiD d ts s
  | .lc m it p c e, env, s => noexc ((evIt it env s).bind fun items s => (mapR (fun x s => match bindP p x s env with
      | some env' => (match c with
        | none => (evE e env' s).bind fun d s => .ok (some d) s
        | some c => (evE c env' s).bind fun b s => (match b with
          | .f (.bl true) => (evE e env' s).bind fun d s => .ok (some d) s
          | .f (.bl false) => .ok none s
          | _ => .fail))
      | none => .fail) items s).bind fun ys s => newL m ys s)
  | .dst a, env, s => (evE a env s).bind fun d s => dstD d s
  | .fz i, env, s => fzD env i s
def evEs : List E → Env' → Sto → R (List D)
  | [], _, s => .ok [] s
  | e :: l, env, s => (evE e env s).bind fun d s => (evEs l env s).bind fun ds s => .ok (d :: ds) s
def evAnd : List E → Env' → Sto → R D
  | [], _, _ => .fail
  | e :: l, env, s => (evE e env s).bind fun d s => (match d with | .f (.bl b) => (match l with | [] => .ok (.f (.bl b)) s | _ :: _ => if b then evAnd l env s else .ok (.f (.bl false)) s) | _ => .fail)
def evOr : List E → Env' → Sto → R D
  | [], _, _ => .fail
  | e :: l, env, s => (evE e env s).bind fun d s => (match d with | .f (.bl b) => (match l with | [] => .ok (.f (.bl b)) s | _ :: _ => if b then .ok (.f (.bl true)) s else evOr l env s) | _ => .fail)
def evO : Option E → Env' → Sto → R (Option Int)
  | none, _, s => .ok none s
  | some e, env, s => (evE e env s).bind fun d s => (match d with | .f (.int i) => .ok (some i) s | _ => .fail)
def evIt : It → Env' → Sto → R (List D)
  | .seq e, env, s => (evE e env s).bind fun d s => (match itemsD d with | some l => .ok l s | none => .fail)
  | .rng1 a, env, s => (evE a env s).bind fun d s => (match d with | .f (.int i) => if inRng i then .ok (rngL 0 i.toNat) s else .fail | _ => .fail)
  | .rng2 a b, env, s => (evE a env s).bind fun d s => (evE b env s).bind fun e s => (match d, e with
    | .f (.int i), .f (.int j) => if inRng i && inRng j then .ok (rngL i (j - i).toNat) s else .fail
    | _, _ => .fail)
  | .enm a, env, s => (evE a env s).bind fun d s => (match frzL d with | some l => .ok (enmL l) s | none => .fail)
  | .zip a b, env, s => (evE a env s).bind fun d s => (evE b env s).bind fun e s => (match frzL d, frzL e with | some l, some m => .ok (zipL l m) s | _, _ => .fail)
  | .rev a, env, s => (evE a env s).bind fun d s => (match frzL d with | some l => .ok l.reverse s | none => .fail)
end
end eval

/-! ### statements -/
inductive O where
  | nx (env : Env') (s : Sto) | rt (d : D) (s : Sto) | bk (env : Env') (s : Sto) | ct (env : Env') (s : Sto) | exc (x : Nat) (env : Env') (s : Sto) | fail
def O.bind : O → (Env' → Sto → O) → O
  | .nx env s, f => f env s
  | .rt d s, _ => .rt d s
  | .bk env s, _ => .bk env s
  | .ct env s, _ => .ct env s
  | .exc x env s, _ => .exc x env s
  | .fail, _ => .fail
@[simp] theorem O.bind_nx (env : Env') (s : Sto) (f : Env' → Sto → O) : (O.nx env s).bind f = f env s := rfl
@[simp] theorem O.bind_rt (d : D) (s : Sto) (f : Env' → Sto → O) : (O.rt d s).bind f = .rt d s := rfl
@[simp] theorem O.bind_bk (env : Env') (s : Sto) (f : Env' → Sto → O) : (O.bk env s).bind f = .bk env s := rfl
@[simp] theorem O.bind_ct (env : Env') (s : Sto) (f : Env' → Sto → O) : (O.ct env s).bind f = .ct env s := rfl
@[simp] theorem O.bind_exc (x : Nat) (env : Env') (s : Sto) (f : Env' → Sto → O) : (O.exc x env s).bind f = .exc x env s := rfl
@[simp] theorem O.bind_fail (f : Env' → Sto → O) : O.fail.bind f = .fail := rfl
/-- an expression's outcome goes on in a statement -/
def R.go {α : Type} (env : Env') : R α → (α → Sto → O) → O
  | .ok a s, f => f a s
  | .exc x s, _ => .exc x env s
  | .fail, _ => .fail
@[simp] theorem R.go_ok {α : Type} (env : Env') (a : α) (s : Sto) (f : α → Sto → O) : (R.ok a s).go env f = f a s := rfl
@[simp] theorem R.go_exc {α : Type} (env : Env') (x : Nat) (s : Sto) (f : α → Sto → O) : (R.exc x s : R α).go env f = .exc x env s := rfl
@[simp] theorem R.go_fail {α : Type} (env : Env') (f : α → Sto → O) : (R.fail : R α).go env f = .fail := rfl
/-- a for's turns -/
def forR (f : D → Env' → Sto → O) : List D → Env' → Sto → O
  | [], env, s => .nx env s
  | x :: r, env, s => match f x env s with
    | .nx env s => forR f r env s
    | .ct env s => forR f r env s
    | .bk env s => .nx env s
    | o => o
/-- n turns of a while at most -/
def whileN (c : Env' → Sto → R D) (b : Env' → Sto → O) : Nat → Env' → Sto → O
  | 0, _, _ => .fail
  | n + 1, env, s => (c env s).go env fun d s => match d with
    | .f (.bl true) => (match b env s with
      | .nx env s => whileN c b n env s
      | .ct env s => whileN c b n env s
      | .bk env s => .nx env s
      | o => o)
    | .f (.bl false) => .nx env s
    | _ => .fail
open Classical in
noncomputable def whileR (c : Env' → Sto → R D) (b : Env' → Sto → O) (env : Env') (s : Sto) : O :=
  if h : ∃ n, whileN c b n env s ≠ .fail then whileN c b (choose h) env s else .fail
def setItemD (o i v : D) (s : Sto) : Option Sto := match o with
  | .loc n => (match s[n]? with
    | some (.lst l) => (match i with
      | .f (.int k) => (ixN l.length k).map fun j => s.set n (.lst (l.set j v))
      | _ => none)
    | some (.dK l) => (keyD i).bind fun k => if l.length < sizeLine then some (s.set n (.dK (setK l k v))) else none
    | some (.dT l) => (keyT i).bind fun k => if l.length < sizeLine then some (s.set n (.dT (setK l k v))) else none
    | _ => none)
  | _ => none
def setFldD (c i : Nat) (o v : D) (s : Sto) : Option Sto := match o with
  | .loc n => (match s[n]? with
    | some (.ins c' l) => if c' = c then (if i < l.length then some (s.set n (.ins c (l.set i v))) else if i = l.length then some (s.set n (.ins c (l ++ [v]))) else none) else none
    | _ => none)
  | _ => none
section exec
/-- isinstance of a caught error: of an own class, or of ValueError -/
def isCls (sub : Nat → Nat → Bool) (y : Nat) : E → Bool
  | .k (.int k) => sub y k.toNat
  | .k .non => true
  | _ => false
variable (call mk : Nat → List D → Sto → R D) (sub : Nat → Nat → Bool)
mutual
noncomputable def exS : S → Env' → Sto → O
  | .set i e, env, s => (evE call mk e env s).go env fun d s => .nx (env.set i (some d)) s
  | .unp l e, env, s => (evE call mk e env s).go env fun d s => (match bindP (.tup l) d s env with | some env' => .nx env' s | none => .fail)
  | .fset c i o e, env, s => (evE call mk e env s).go env fun v s => (evE call mk o env s).go env fun d s => (match setFldD c i d v s with | some s => .nx env s | none => .fail)
  | .iset o i e, env, s => (evE call mk e env s).go env fun v s => (evE call mk o env s).go env fun d s => (evE call mk i env s).go env fun k s => (match setItemD d k v s with | some s => .nx env s | none => .fail)
  | .ret e, env, s => (evE call mk e env s).go env fun d s => .rt d s
  | .retN, _, s => .rt (.f .non) s
  | .ex e, env, s => (evE call mk e env s).go env fun _ s => .nx env s
  | .ite c a b, env, s => (evE call mk c env s).go env fun d s => (match d with | .f (.bl true) => exSs a env s | .f (.bl false) => exSs b env s | _ => .fail)
  | .for_ p it b, env, s => (evIt call mk it env s).go env fun items s => forR (fun x env s => match bindP p x s env with | some env' => exSs b env' s | none => .fail) items env s
  | .while_ c b, env, s => whileR (evE call mk c) (fun env s => exSs b env s) env s
  | .brk, env, s => .bk env s
  | .cnt, env, s => .ct env s
  | .pas, env, s => .nx env s
  | .raise x, env, s => .exc x env s
  | .try_ b x i h, env, s => (match exSs b env s with
    | .exc y env s => if sub y y then (if sub y x then (match i with
        | none => exSs h env s
        | some _ => (match h with | [.ret (.tup l)] => .rt (.f (.bl (l.all (isCls sub y)))) s | _ => .fail)) else .exc y env s) else .fail
    | o => o)
noncomputable def exSs : List S → Env' → Sto → O
  | [], env, s => .nx env s
  | x :: l, env, s => (exS x env s).bind fun env s => exSs l env s
end
end exec

/-! ### functions -/
structure Fn where
  nps : Nat
  nsl : Nat
  body : List S
structure Tb where
  fns : List Fn
  sub : Nat → Nat → Bool
def O.res : O → R D
  | .nx _ s => .ok (.f .non) s
  | .rt d s => .ok d s
  | .exc x _ s => .exc x s
  | _ => .fail
def startE (n : Nat) (ds : List D) : Env' := ds.map some ++ List.replicate (n - ds.length) none
/-- what calls do at a level, and at the level below -/
noncomputable def callP (T : Tb) : Nat → (Nat → List D → Sto → R D) × (Nat → List D → Sto → R D)
  | 0 => (fun _ _ _ => .fail, fun _ _ _ => .fail)
  | n + 1 => (fun f ds s => match T.fns[f]? with
    | some F => if ds.length = F.nps then (exSs (callP T n).1 (callP T n).2 T.sub F.body (startE F.nsl ds) s).res else .fail
    | none => .fail, (callP T n).1)
noncomputable abbrev callF (T : Tb) (n : Nat) := (callP T n).1
noncomputable abbrev callM (T : Tb) (n : Nat) := (callP T n).2
end JM

set_option autoImplicit false
/-! J7: readings of the small language; targets; what a for walks over. -/
namespace JM
open PySem PySem.Spec PyProof.Rows L2

theorem _root_.L2.PE.weak {X : Cx} {e : Expr} {t t' : TE} (h : PE X e t) (k : ∀ σ H Q, t' σ H Q → t σ H Q) : PE X e t' := ⟨fun pins s σ H Q I q => h.run pins s σ H Q I (k σ H Q q)⟩
theorem _root_.L2.PT.weak {X : Cx} {e : Expr} {t t' : TT} (h : PT X e t) (k : ∀ σ H Q, t' σ H Q → t σ H Q) : PT X e t' := ⟨fun pins s σ H Q I q => h.run pins s σ H Q I (k σ H Q q)⟩
theorem _root_.L2.PW.weak {X : Cx} {e : Expr} {t t' : TT} (h : PW X e t) (k : ∀ σ H Q, t' σ H Q → t σ H Q) : PW X e t' := ⟨fun wh pins s σ H Q I q => h.run wh pins s σ H Q I (k σ H Q q)⟩
theorem _root_.L2.PA.weak {X : Cx} {e : List Expr} {t t' : TA} (h : PA X e t) (k : ∀ σ H Q, t' σ H Q → t σ H Q) : PA X e t' := ⟨fun pos pins s σ H Q I q => h.run pos pins s σ H Q I (k σ H Q q)⟩
theorem _root_.L2.PS.weak {X : Cx} {e : Stmt} {t t' : TS} (h : PS X e t) (k : ∀ D σ H, t' D σ H → t D σ H) : PS X e t' := ⟨fun pins s σ H D I q => h.run pins s σ H D I (k D σ H q)⟩
theorem _root_.L2.PSs.weak {X : Cx} {e : List Stmt} {t t' : TS} (h : PSs X e t) (k : ∀ D σ H, t' D σ H → t D σ H) : PSs X e t' := ⟨fun pins s σ H D I q => h.run pins s σ H D I (k D σ H q)⟩
theorem _root_.L2.PI.weak {X : Cx} {tg e : Expr} {t t' : TI} (h : PI X tg e t) (k : ∀ σ H R, t' σ H R → t σ H R) : PI X tg e t' := ⟨fun pins s σ H R I q => h.run pins s σ H R I (k σ H R q)⟩
theorem _root_.L2.PI.or {X : Cx} {tg e : Expr} {t t' : TI} (h : PI X tg e t) (k : PI X tg e t') : PI X tg e (fun σ H R => t σ H R ∨ t' σ H R) :=
  ⟨fun pins s σ H R I q => q.elim (h.run pins s σ H R I) (k.run pins s σ H R I)⟩

/-- a frame's wish about an exception of a class, at its slots -/
def wx (L : Lk) (W : WX) (σ : L2.St) : Nat → Hp → Prop := fun x H => W (.ref (L.xad x)) none σ H
def rTE (L : Lk) (W : WX) (f : Env' → Sto → R D) : TE := fun σ H Q => ∃ ρ s env, SR L ρ s H ∧ ER L.K ρ H env σ ∧ Good L (VR L.K) (wx L W σ) ρ H Q (f env s)
def GoodB (L : Lk) (W : Nat → Hp → Prop) (ρ : Ro) (H : Hp) (Q : Bool → Hp → Prop) : R D → Prop
  | .ok (.f (.bl b)) s' => ∀ ρ' H', Ex ρ H ρ' H' → SR L ρ' s' H' → Q b H'
  | .exc x s' => ∀ ρ' H', Ex ρ H ρ' H' → SR L ρ' s' H' → W x H'
  | _ => False
def rTT (L : Lk) (W : WX) (f : Env' → Sto → R D) : TT := fun σ H Q => ∃ ρ s env, SR L ρ s H ∧ ER L.K ρ H env σ ∧ GoodB L (wx L W σ) ρ H Q (f env s)
theorem GoodB.val {L : Lk} {W : Nat → Hp → Prop} {ρ : Ro} {H : Hp} {Q : Bool → Hp → Prop} {r : R D} (g : GoodB L W ρ H Q r) : Good L (VR L.K) W ρ H (fun v H1 => ∃ c, v = .bl c ∧ Q c H1) r := by
  unfold GoodB at g
  split at g
  · exact fun ρ' H' v e sr h => ⟨_, h.bl, g ρ' H' e sr⟩
  · exact g
  · exact g.elim
/-- a part that is a truth -/
theorem GoodB.of {γ δ : Type} {L : Lk} {rel : Ro → Hp → γ → δ → Prop} {W : Nat → Hp → Prop} {ρ : Ro} {H : Hp} {Q : δ → Hp → Prop} {r : R D} {f : Bool → Sto → R γ} {k : D → Sto → R γ} (g : Good L rel W ρ H Q (r.bind k))
    (hk : ∀ d s, k d s = match d with | .f (.bl b) => f b s | _ => .fail) : GoodB L W ρ H (fun b H1 => ∃ ρ1 s1, Ex ρ H ρ1 H1 ∧ SR L ρ1 s1 H1 ∧ Good L rel W ρ1 H1 Q (f b s1)) r := by
  cases r with
  | ok d s =>
    have g : Good L rel W ρ H Q (k d s) := g
    rw [hk] at g
    cases d with
    | f x =>
      cases x with
      | bl b => exact fun ρ' H' e sr => ⟨ρ', s, e, sr, Good.later g e⟩
      | _ => exact g.elim
    | loc n => exact g.elim
    | tup l => exact g.elim
  | exc x s => exact g
  | fail => exact g.elim
def rTA (L : Lk) (W : WX) (f : Env' → Sto → R (List D)) : TA := fun σ H Q => ∃ ρ s env, SR L ρ s H ∧ ER L.K ρ H env σ ∧ Good L (VL L.K) (wx L W σ) ρ H Q (f env s)
def GoodO (L : Lk) (W : WX) (D : Ends) (ρ : Ro) (H : Hp) : O → Prop
  | .nx env s => ∀ ρ' σ' H', Ex ρ H ρ' H' → SR L ρ' s H' → ER L.K ρ' H' env σ' → D.nx σ' H'
  | .rt d s => ∀ ρ' H' v, Ex ρ H ρ' H' → SR L ρ' s H' → VR L.K ρ' H' d v → D.rt v H'
  | .bk env s => ∀ ρ' σ' H', Ex ρ H ρ' H' → SR L ρ' s H' → ER L.K ρ' H' env σ' → D.bk σ' H'
  | .ct env s => ∀ ρ' σ' H', Ex ρ H ρ' H' → SR L ρ' s H' → ER L.K ρ' H' env σ' → D.ct σ' H'
  | .exc x env s => ∀ ρ' σ' H', Ex ρ H ρ' H' → SR L ρ' s H' → ER L.K ρ' H' env σ' → W (.ref (L.xad x)) none σ' H'
  | .fail => False
def rTS (L : Lk) (W : WX) (f : Env' → Sto → O) : TS := fun D σ H => ∃ ρ s env, SR L ρ s H ∧ ER L.K ρ H env σ ∧ GoodO L W D ρ H (f env s)
theorem GoodO.later {L : Lk} {W : WX} {D : Ends} {ρ ρ1 : Ro} {H H1 : Hp} {o : O} (g : GoodO L W D ρ H o) (e : Ex ρ H ρ1 H1) : GoodO L W D ρ1 H1 o := by
  cases o with
  | nx env s => exact fun ρ' σ' H' x => g ρ' σ' H' (e.trans x)
  | rt d s => exact fun ρ' H' v x => g ρ' H' v (e.trans x)
  | bk env s => exact fun ρ' σ' H' x => g ρ' σ' H' (e.trans x)
  | ct env s => exact fun ρ' σ' H' x => g ρ' σ' H' (e.trans x)
  | exc y env s => exact fun ρ' σ' H' x => g ρ' σ' H' (e.trans x)
  | fail => exact g
/-- a block: its first statement, then the rest -/
theorem GoodO.bind {L : Lk} {W : WX} {D : Ends} {ρ : Ro} {H : Hp} {o : O} {f : Env' → Sto → O} (g : GoodO L W D ρ H (o.bind f)) :
    GoodO L W { D with nx := fun σ' H' => ∃ ρ' s env, SR L ρ' s H' ∧ ER L.K ρ' H' env σ' ∧ GoodO L W D ρ' H' (f env s) } ρ H o := by
  cases o with
  | nx env s => exact fun ρ' σ' H' x sr er => ⟨ρ', s, env, sr, er, GoodO.later g x⟩
  | rt d s => exact g
  | bk env s => exact g
  | ct env s => exact g
  | exc y env s => exact g
  | fail => exact g
/-- an expression within a statement -/
theorem Good.go {α β : Type} {L : Lk} {rel : Ro → Hp → α → β → Prop} {W : WX} {D : Ends} {ρ : Ro} {H : Hp} {env : Env'} {σ : L2.St} {r : R α} {f : α → Sto → O} (g : GoodO L W D ρ H (r.go env f)) (er : ER L.K ρ H env σ) :
    Good L rel (wx L W σ) ρ H (fun v H1 => ∃ ρ1 s1 d, Ex ρ H ρ1 H1 ∧ SR L ρ1 s1 H1 ∧ rel ρ1 H1 d v ∧ GoodO L W D ρ1 H1 (f d s1)) r := by
  cases r with
  | ok d s' => exact fun ρ' H' v x sr vr => ⟨ρ', s', d, x, sr, vr, GoodO.later g x⟩
  | exc y s' => exact fun ρ' H' x sr => g ρ' σ H' x sr (er.mono x)
  | fail => exact g

theorem GoodB.go {L : Lk} {W : WX} {D : Ends} {ρ : Ro} {H : Hp} {env : Env'} {σ : L2.St} {r : R JM.D} {f : Bool → Sto → O} {k : JM.D → Sto → O} (g : GoodO L W D ρ H (r.go env k)) (er : ER L.K ρ H env σ)
    (hk : ∀ d s, k d s = match d with | .f (.bl b) => f b s | _ => .fail) : GoodB L (wx L W σ) ρ H (fun b H1 => ∃ ρ1 s1, Ex ρ H ρ1 H1 ∧ SR L ρ1 s1 H1 ∧ GoodO L W D ρ1 H1 (f b s1)) r := by
  cases r with
  | ok d s =>
    have g : GoodO L W D ρ H (k d s) := g
    rw [hk] at g
    cases d with
    | f x =>
      cases x with
      | bl b => exact fun ρ' H' e sr => ⟨ρ', s, e, sr, GoodO.later g e⟩
      | _ => exact g.elim
    | loc n => exact g.elim
    | tup l => exact g.elim
  | exc x s => exact fun ρ' H' e sr => g ρ' σ H' e sr (er.mono e)
  | fail => exact g.elim

/-! ### targets -/
def setσ (is : List Nat) (xs : List V) (σ : L2.St) : L2.St := (is.zip xs).foldl (fun σ q => σ.set q.1 (some q.2)) σ
def gPat (K : PySem.W.Frag) : Pat → TG
  | .one i => fun v σ H Q => Q (σ.set i (some v)) H
  | .tup is => fun v σ H Q => ∃ a xs, v = .ref a ∧ SqT K H a xs ∧ xs.length = is.length ∧ Q (setσ is xs σ) H
def Pat.slots : Pat → List Nat
  | .one i => [i]
  | .tup is => is
theorem setσ_len (is : List Nat) (xs : List V) : ∀ σ : L2.St, (setσ is xs σ).length = σ.length := by
  unfold setσ
  induction is.zip xs with
  | nil => intro σ; rfl
  | cons q r ih => intro σ; rw [List.foldl_cons, ih, List.length_set]
theorem ER.setL {K : PySem.W.Frag} {ρ : Ro} {H : Hp} : ∀ {is : List Nat} {l : List D} {xs : List V} {env : Env'} {σ : L2.St}, ER K ρ H env σ → VL K ρ H l xs → ER K ρ H ((is.zip l).foldl (fun env q => env.set q.1 (some q.2)) env) (setσ is xs σ)
  | [], _, _, _, _, r, _ => r
  | i :: is, _, _, env, σ, r, .nil => r
  | i :: is, _, _, env, σ, r, .cons h t => by
    unfold setσ
    rw [List.zip_cons_cons, List.zip_cons_cons, List.foldl_cons, List.foldl_cons]
    exact ER.setL (r.set h) t
/-- a target is served -/
theorem gPat_ok {L : Lk} {ρ : Ro} {H : Hp} {s : Sto} {p : Pat} {d : D} {v : V} {env env' : Env'} {σ : L2.St} {Q : L2.St → Hp → Prop} (e : bindP p d s env = some env') (h : VR L.K ρ H d v) (er : ER L.K ρ H env σ)
    (q : ∀ σ', ER L.K ρ H env' σ' → (∃ xs, σ' = setσ p.slots xs σ) → Q σ' H) : gPat L.K p v σ H Q := by
  cases p with
  | one i =>
    cases e
    exact q _ (er.set h) ⟨[v], rfl⟩
  | tup is =>
    unfold bindP at e
    simp only at e
    split at e
    · rename_i l hl
      split at e
      · rename_i hn
        cases e
        obtain ⟨a, xs, rfl, hx, pl, _⟩ := seqT_ok hl h
        exact ⟨a, xs, rfl, hx, by rw [← pl.length]; exact hn, q _ (er.setL pl) ⟨xs, rfl⟩⟩
      · cases e
    · cases e
theorem wipe_set {σ : L2.St} {i : Nat} {x : Option V} : ∀ {vs : List Nat}, i ∈ vs → wipe (σ.set i x) vs = wipe σ vs
  | [], h => by cases h
  | v :: vs, h => by
    unfold wipe
    by_cases e : i ∈ vs
    · rw [wipe_set e]
    · have ev : v = i := by
        rcases List.mem_cons.mp h with z | z
        · exact z.symm
        · exact (e z).elim
      subst ev
      have go : ∀ {us : List Nat} {σ : L2.St}, v ∉ us → wipe (σ.set v x) us = (wipe σ us).set v x := fun {us} => by
        induction us with
        | nil => intro σ _; rfl
        | cons u us ih =>
          intro σ hn
          have h1 : u ≠ v := fun z => hn (by rw [z]; exact List.mem_cons_self)
          unfold wipe
          rw [ih (fun z => hn (List.mem_cons_of_mem _ z)), List.set_comm _ _ (Ne.symm h1)]
      rw [go e, List.set_set]
theorem wipe_setσ {vs : List Nat} : ∀ {is : List Nat} {xs : List V} {σ : L2.St}, (∀ i ∈ is, i ∈ vs) → wipe (setσ is xs σ) vs = wipe σ vs
  | [], _, _, _ => rfl
  | i :: is, [], _, _ => rfl
  | i :: is, x :: xs, σ, h => by
    unfold setσ
    rw [List.zip_cons_cons, List.foldl_cons]
    show wipe (setσ is xs (σ.set i (some x))) vs = _
    rw [wipe_setσ fun j hj => h j (List.mem_cons_of_mem _ hj), wipe_set (h i List.mem_cons_self)]
theorem wipe_get {σ : L2.St} {i : Nat} : ∀ {vs : List Nat}, i ∉ vs → (wipe σ vs)[i]? = σ[i]?
  | [], _ => rfl
  | v :: vs, h => by
    unfold wipe
    rw [List.getElem?_set_ne (fun e => h (by rw [e]; exact List.mem_cons_self))]
    exact wipe_get fun m => h (List.mem_cons_of_mem _ m)
theorem wipe_wipe {σ : L2.St} {vs : List Nat} : wipe (wipe σ vs) vs = wipe σ vs := by
  apply List.ext_getElem?
  intro j
  by_cases h : j ∈ vs
  · have none_at : ∀ {us : List Nat} {τ : L2.St}, j ∈ us → (wipe τ us)[j]? = if j < τ.length then some none else none := fun {us} => by
      induction us with
      | nil => intro τ h; cases h
      | cons u us ih =>
        intro τ h
        unfold wipe
        by_cases e : u = j
        · subst e
          rw [List.getElem?_set]
          simp only [if_true, wipe_length]
        · rw [List.getElem?_set_ne e]
          rcases List.mem_cons.mp h with z | z
          · exact (e z.symm).elim
          · exact ih z
    rw [none_at h, none_at h, wipe_length]
  · rw [wipe_get h]

/-! ### what is walked -/
/-- an iterator that yields these items, from a state on -/
def JR (L : Lk) : Ro → Hp → List D → L2.It → Prop := fun ρ H items J => ∀ ρ' s' H', Ex ρ H ρ' H' → SR L ρ' s' H' → ∀ i : Nat,
  (∀ d, items[i]? = some d → J.go i H' ∧ ∀ x H2, J.yld i H' x H2 → Ex ρ' H' ρ' H2 ∧ SR L ρ' s' H2 ∧ VR L.K ρ' H2 d x) ∧ (items.length ≤ i → J.stop i H')
def rTI (L : Lk) (W : WX) (f : Env' → Sto → R (List D)) : TI := fun σ H Rr => ∃ ρ s env, SR L ρ s H ∧ ER L.K ρ H env σ ∧ Good L (JR L) (wx L W σ) ρ H Rr (f env s)

section walks
variable {L : Lk} {ρ : Ro} {H : Hp}
theorem JR.list {a : Addr} {l : List F} {xs : List V} (h : ∀ ρ' s' H', Ex ρ H ρ' H' → SR L ρ' s' H' → SqL L.K H' a xs ∧ FL L.K ρ' H' l xs) : JR L ρ H (l.map .f) (Itl L.K a) := by
  intro ρ' s' H' e sr i
  obtain ⟨hq, p⟩ := h ρ' s' H' e sr
  refine ⟨fun d hd => ?_, fun hi => ⟨xs, hq, by rw [← p.length]; simpa using hi⟩⟩
  rw [List.getElem?_map] at hd
  cases e1 : l[i]? with
  | none => rw [e1] at hd; cases hd
  | some y =>
    rw [e1] at hd; cases hd
    obtain ⟨v, hv, r⟩ := pget p e1
    refine ⟨⟨xs, v, hq, hv⟩, fun x H2 ⟨e2, hx⟩ => ?_⟩
    subst e2
    have : xs[i]? = some x := hx xs hq
    rw [hv] at this; cases this
    exact ⟨Ex.refl, sr, VR.f_iff.mpr r⟩
theorem kF_ok {K : PySem.W.Frag} {k : Key} (h : keyOk k = true) : VR K ρ H (.f (kF k)) (kV k) := by
  cases k with
  | inl i => exact vInt i
  | inr z =>
    unfold keyOk at h
    simp only [Bool.and_eq_true, decide_eq_true_eq] at h
    exact vStr h.1 h.2
theorem JR.keys {a : Addr} {od : Obj} {l : List (Key × F)} {xs : List (Key × V)} (h : H a = some (.frz od (.dK xs))) (no : ρ.no a) (p : KVR (VF L.K ρ H) l xs) (ok : (l.all fun p => keyOk p.1) = true) : JR L ρ H (l.map fun p => .f (kF p.1)) (Itk a od xs) := by
  intro ρ' s' H' e sr i
  have hH : H' a = some (.frz od (.dK xs)) := e.keep _ _ h no.1
  refine ⟨fun d hd => ?_, fun hi => ⟨hH, by rw [← p.length]; simpa using hi⟩⟩
  rw [List.getElem?_map] at hd
  cases e1 : l[i]? with
  | none => rw [e1] at hd; cases hd
  | some q =>
    rw [e1] at hd; cases hd
    obtain ⟨w, hw, r⟩ := pget p e1
    refine ⟨⟨hH, (List.getElem?_eq_some_iff.mp hw).1⟩, fun x H2 ⟨e2, k, v, hk, hx⟩ => ?_⟩
    subst e2
    rw [hw] at hk; cases hk
    subst hx
    have this : q.1 = k := r.1
    refine ⟨Ex.refl, sr, ?_⟩
    show VR L.K ρ' _ (.f (kF q.1)) (kV k)
    rw [← this]
    exact kF_ok (List.all_eq_true.mp ok q (List.mem_of_getElem? e1))
theorem JR.tup {a : Addr} {l : List D} {xs : List V} (h : ∀ ρ' s' H', Ex ρ H ρ' H' → SR L ρ' s' H' → SqT L.K H' a xs ∧ VL L.K ρ' H' l xs) : JR L ρ H l (Itt L.K a) := by
  intro ρ' s' H' e sr i
  obtain ⟨hq, p⟩ := h ρ' s' H' e sr
  refine ⟨fun d hd => ?_, fun hi => ⟨xs, hq, by rw [← p.length]; exact hi⟩⟩
  obtain ⟨v, hv, r⟩ := pget p hd
  refine ⟨⟨xs, v, hq, hv⟩, fun x H2 ⟨e2, hx⟩ => ?_⟩
  subst e2
  have : xs[i]? = some x := hx xs hq
  rw [hv] at this; cases this
  exact ⟨Ex.refl, sr, r⟩
theorem JR.str {z : Str} (h : PyData.strOk z = true) : JR L ρ H (z.cps.toList.map fun c => .f (.str (one c))) (Its z) := by
  intro ρ' s' H' e sr i
  refine ⟨fun d hd => ?_, fun hi => by
    have h : z.cps.size ≤ i := by simpa using hi
    exact h⟩
  rw [List.getElem?_map] at hd
  cases e1 : z.cps.toList[i]? with
  | none => rw [e1] at hd; cases hd
  | some c =>
    rw [e1] at hd; cases hd
    have e3 : z.cps[i]? = some c := by simpa using e1
    refine ⟨(Array.getElem?_eq_some_iff.mp e3).1, fun x H2 ⟨e2, c', hc, hx⟩ => ?_⟩
    subst e2
    rw [e3] at hc; cases hc
    subst hx
    exact ⟨Ex.refl, sr, vStr (by rw [sizeLine_eq]; exact Nat.le_trans (Nat.le_refl 1) (by decide)) (strOk_mem h (List.mem_of_getElem? e1))⟩
theorem JR.rng {lo : Int} {n : Nat} : JR L ρ H (rngL lo n) (Itr lo n) := by
  intro ρ' s' H' e sr i
  unfold rngL
  refine ⟨fun d hd => ?_, fun hi => by
    have h : n ≤ i := by simpa using hi
    exact h⟩
  rw [List.getElem?_map] at hd
  cases e1 : (List.range n)[i]? with
  | none => rw [e1] at hd; cases hd
  | some c =>
    rw [e1] at hd; cases hd
    obtain ⟨h1, h2⟩ := List.getElem?_eq_some_iff.mp e1
    simp only [List.length_range] at h1
    rw [List.getElem_range] at h2
    subst h2
    refine ⟨h1, fun x H2 ⟨e2, hx⟩ => ?_⟩
    subst e2; subst hx
    exact ⟨Ex.refl, sr, vInt _⟩
theorem JR.rev {a : Addr} {l : List F} {xs : List V} (h : ∀ ρ' s' H', Ex ρ H ρ' H' → SR L ρ' s' H' → SqL L.K H' a xs ∧ FL L.K ρ' H' l xs) (hn : l.length = xs.length) : JR L ρ H (l.map .f).reverse (Itv L.K a xs.length) := by
  intro ρ' s' H' e sr i
  obtain ⟨hq, p⟩ := h ρ' s' H' e sr
  refine ⟨fun d hd => ?_, fun hi => by
    simp only [List.length_reverse, List.length_map] at hi
    show xs.length ≤ i
    omega⟩
  have hi : i < l.length := by simpa using (List.getElem?_eq_some_iff.mp hd).1
  rw [List.getElem?_reverse (by simpa using hi), List.length_map, List.getElem?_map] at hd
  cases e1 : l[l.length - 1 - i]? with
  | none => rw [e1] at hd; cases hd
  | some y =>
    rw [e1] at hd; cases hd
    obtain ⟨v, hv, r⟩ := pget p e1
    rw [hn] at hv
    refine ⟨⟨by rw [← hn]; exact hi, xs, v, hq, hv⟩, fun x H2 ⟨e2, hx⟩ => ?_⟩
    subst e2
    have : xs[xs.length - 1 - i]? = some x := hx xs hq
    rw [hv] at this; cases this
    exact ⟨Ex.refl, sr, VR.f_iff.mpr r⟩
theorem pair_new {ρ' : Ro} {s' : Sto} {H' : Hp} {T : Addr} {x y : F} {v w : V} (sr : SR L ρ' s' H') (hT : H' T = none) (h : VF L.K ρ' H' x v) (k : VF L.K ρ' H' y w) :
    Ex ρ' H' ρ' (upd H' T (.tup [v, w])) ∧ SR L ρ' s' (upd H' T (.tup [v, w])) ∧ VR L.K ρ' (upd H' T (.tup [v, w])) (.f (.tup [x, y])) (.ref T) :=
  ⟨Ex.fresh sr hT, sr.fresh hT, VR.f_iff.mpr (VF.tup_iff.mpr ⟨T, _, rfl, ⟨upd_same, sr.free hT⟩, by rw [sizeLine_eq]; exact Nat.le_trans (Nat.le_refl 2) (by decide), .cons (h.mono (Ex.fresh sr hT)) (.cons (k.mono (Ex.fresh sr hT)) .nil)⟩)⟩
theorem enmL_map (l : List F) : enmL (l.map .f) = l.zipIdx.map fun q => .f (.tup [.int (q.2 : Nat), q.1]) := by
  unfold enmL
  rw [List.zipIdx_map, List.map_map]
  rfl
theorem JR.enm {a : Addr} {l : List F} {xs : List V} (h : ∀ ρ' s' H', Ex ρ H ρ' H' → SR L ρ' s' H' → SqL L.K H' a xs ∧ FL L.K ρ' H' l xs) : JR L ρ H (enmL (l.map .f)) (Ite L.K a) := by
  intro ρ' s' H' e sr i
  obtain ⟨hq, p⟩ := h ρ' s' H' e sr
  rw [enmL_map]
  refine ⟨fun d hd => ?_, fun hi => ⟨xs, hq, by rw [← p.length]; simpa using hi⟩⟩
  rw [List.getElem?_map, List.getElem?_zipIdx] at hd
  cases e1 : l[i]? with
  | none => rw [e1] at hd; cases hd
  | some y =>
    rw [e1] at hd
    simp only [Option.map_some, Nat.zero_add] at hd
    cases hd
    obtain ⟨v, hv, r⟩ := pget p e1
    refine ⟨⟨xs, v, hq, hv⟩, fun x H2 ⟨T, x', e2, hT, e3, hx⟩ => ?_⟩
    subst e2; subst e3
    have : xs[i]? = some x' := hx xs hq
    rw [hv] at this; cases this
    exact pair_new sr hT (by simp only [VF]) r
theorem zipL_map (l m : List F) : zipL (l.map .f) (m.map .f) = (l.zip m).map fun q => .f (.tup [q.1, q.2]) := by
  unfold zipL
  rw [List.zip_map, List.map_map]
  rfl
theorem JR.zip {a b : Addr} {l m : List F} {xs ys : List V} (h : ∀ ρ' s' H', Ex ρ H ρ' H' → SR L ρ' s' H' → (SqL L.K H' a xs ∧ FL L.K ρ' H' l xs) ∧ SqL L.K H' b ys ∧ FL L.K ρ' H' m ys) : JR L ρ H (zipL (l.map .f) (m.map .f)) (Itz L.K a b) := by
  intro ρ' s' H' e sr i
  obtain ⟨⟨hq, p⟩, hq2, p2⟩ := h ρ' s' H' e sr
  rw [zipL_map]
  refine ⟨fun d hd => ?_, fun hi => ⟨xs, ys, hq, hq2, by
    have h1 := p.length
    have h2 := p2.length
    simp only [List.length_map, List.length_zip] at hi
    omega⟩⟩
  rw [List.getElem?_map] at hd
  cases e0 : (l.zip m)[i]? with
  | none => rw [e0] at hd; cases hd
  | some q =>
    rw [e0] at hd
    cases hd
    obtain ⟨e1, e2⟩ := List.getElem?_zip_eq_some.mp e0
    obtain ⟨v, hv, r⟩ := pget p e1
    obtain ⟨w, hw, r2⟩ := pget p2 e2
    refine ⟨⟨xs, ys, v, w, hq, hq2, hv, hw⟩, fun x H2 ⟨T, x', y', e2, hT, e3, hx, hy⟩ => ?_⟩
    subst e2; subst e3
    have h1 : xs[i]? = some x' := hx xs hq
    have h2 : ys[i]? = some y' := hy ys hq2
    rw [hv] at h1; cases h1
    rw [hw] at h2; cases h2
    exact pair_new sr hT r r2
end walks
end JM

set_option autoImplicit false
/-! J8: which expression of the model's syntax is which of the small language. -/
namespace JM
open PySem PySem.Spec PyProof.Rows L2

/-- the forms that are served -/
def okE : Expr → Bool
  | .Constant .. => true | .Name .. => true | .BinOp .. => true | .UnaryOp .. => true | .Compare .. => true | .BoolOp .. => true | .IfExp .. => true | .Tuple .. => true | .List .. => true
  | .Dict .. => true | .Subscript .. => true | .Call .. => true | .Attribute .. => true | .ListComp .. => true | _ => false
def isLC : Expr → Bool
  | .ListComp .. => true | _ => false
def isCall : Expr → Bool
  | .Call (.Name ..) [] [] _ => true | _ => false
/-- where a def stands -/
inductive At where | glob (x : Str) | meth (c : Nat) (m : Str)
structure ClsS where
  name : Str
  fields : List Str
structure Stat where
  at_ : List At
  cls : List ClsS
  exs : List Str
  gls : List (Str × F)
  free : List Str

section syn
variable {e b o : Expr} {es : List Expr} {env : Env}
theorem star_ok (h : okE e = true) : starEach (e :: es) env = (false, eval e env) :: starEach es env := by
  cases e <;> first | rfl | exact Bool.noConfusion (show false = true from h)
theorem plain_ok (h : okE b = true) : PlainIx b := by
  intro o i
  cases b <;> first | rfl | exact Bool.noConfusion (show false = true from h)
theorem mark_ok (h : okE b = true) {op : CmpOp} : behindInMarks op b = false := by
  cases b <;> first | rfl | exact Bool.noConfusion (show false = true from h)
theorem base_ok (h : okE o = true) (k : isCall o = false) {name : Str} : attributeBase o name env (eval o env) = eval o env := by
  cases o <;> first | rfl | exact Bool.noConfusion (show false = true from h) | skip
  case Call f as ks p =>
    unfold attributeBase
    split
    · rename_i he
      cases he
      exact Bool.noConfusion (show true = false from k)
    · rfl
theorem true_ok (h : okE e = true) (k : (match e with | .UnaryOp .Not _ _ => false | .BoolOp .. => false | .IfExp .. => false | .Compare .. => false | _ => true) = true) : ∀ whole, isTrue e env whole = (do let v ← whole; standAt e.pos; holding [v] (truthy v)) := by
  intro whole
  cases e <;> first | rfl | exact Bool.noConfusion (show false = true from k) | exact Bool.noConfusion (show false = true from h) | skip
  case UnaryOp op x p => cases op <;> first | rfl | exact Bool.noConfusion (show false = true from k)
theorem swap_ok (h : okE e = true) (k : isLC e = false) {t : Option Expr} {l : Nat} : swapsWith e t l env = pure false := by
  cases e <;> first | rfl | exact Bool.noConfusion (show false = true from h) | exact Bool.noConfusion (show true = false from k)
theorem fold_ok (h : okE e = true) : ∀ x, foldedSetIterable e env x = pure x := by
  intro x
  cases e <;> first | rfl | exact Bool.noConfusion (show false = true from h)
end syn

mutual
def F.beq : F → F → Bool
  | .non, .non => true
  | .bl a, .bl b => a == b
  | .int a, .int b => decide (a = b)
  | .str a, .str b => decide (a = b)
  | .tup l, .tup m => F.beqs l m
  | .ktup l, .ktup m => F.beqs l m
  | .lst l, .lst m => F.beqs l m
  | _, _ => false
def F.beqs : List F → List F → Bool
  | [], [] => true
  | a :: l, b :: m => F.beq a b && F.beqs l m
  | _, _ => false
end
mutual
theorem F.beq_eq : ∀ {a b : F}, F.beq a b = true → a = b
  | .non, b, h => by cases b <;> first | rfl | (simp only [F.beq] at h; cases h)
  | .bl a, b, h => by cases b <;> first | (simp only [F.beq] at h; rw [eq_of_beq h]) | (simp only [F.beq] at h; cases h)
  | .int a, b, h => by cases b <;> first | (simp only [F.beq, decide_eq_true_eq] at h; rw [h]) | (simp only [F.beq] at h; cases h)
  | .str a, b, h => by cases b <;> first | (simp only [F.beq, decide_eq_true_eq] at h; rw [h]) | (simp only [F.beq] at h; cases h)
  | .tup a, b, h => by cases b <;> first | (simp only [F.beq] at h; rw [F.beqs_eq h]) | (simp only [F.beq] at h; cases h)
  | .ktup a, b, h => by cases b <;> first | (simp only [F.beq] at h; rw [F.beqs_eq h]) | (simp only [F.beq] at h; cases h)
  | .lst a, b, h => by cases b <;> first | (simp only [F.beq] at h; rw [F.beqs_eq h]) | (simp only [F.beq] at h; cases h)
  | .scr a, b, h => by cases b <;> (simp only [F.beq] at h; cases h)
  | .dct a, b, h => by cases b <;> (simp only [F.beq] at h; cases h)
theorem F.beqs_eq : ∀ {a b : List F}, F.beqs a b = true → a = b
  | [], b, h => by cases b <;> first | rfl | (simp only [F.beqs] at h; cases h)
  | x :: l, b, h => by
    cases b with
    | nil => simp only [F.beqs] at h; cases h
    | cons y m =>
      simp only [F.beqs, Bool.and_eq_true] at h
      rw [F.beq_eq h.1, F.beqs_eq h.2]
end

def BO.op : BO → Operator
  | .add _ => .Add | .sub => .Sub | .mul _ => .Mult | .fdiv => .FloorDiv | .mod => .Mod | .pow => .Pow
def CO.op : CO → CmpOp
  | .eq => .Eq | .ne => .NotEq | .lt => .Lt | .le => .LtE | .gt => .Gt | .ge => .GtE | .isin => .In | .nin => .NotIn | .is_ => .Is | .nis => .IsNot
def Ty.name : Ty → String
  | .int => "int" | .str => "str" | .bool => "bool" | .tuple => "tuple" | .list => "list"
def Bm.name : Bm → Str
  | .append => "append" | .pop => "pop" | .extend => "extend" | .clear => "clear" | .split _ => "split" | .find => "find" | .upper => "upper" | .join => "join" | .get1 => "get" | .get2 => "get"
def Bm.served : Bm → Nat → Bool
  | .append, 1 => true | .pop, 0 => true | .clear, 0 => true | .split _, 1 => true | .find, 1 => true | .upper, 0 => true | .join, 1 => true | .get1, 1 => true | .get2, 2 => true | _, _ => false
def visB (sc : Scope) (x : Str) : Bool := (match sc.names.lookup x with | some .local => true | some .cell => true | some .free => true | _ => false) && !(x == ("__debug__" : Str)) && !(x == ("__classdict__" : Str))
def glB (sc : Scope) (x : Str) : Bool := (match sc.names.lookup x with | some .globalImplicit => true | _ => false) && !(x == ("__debug__" : Str)) && !(x == ("__name__" : Str))
def locB (sc : Scope) (fnb : Str → Bool) (x : Str) : Bool := match sc.names.lookup x with | some .local => true | some .cell => fnb x | _ => false
def nmB (N : List Str) (i : Nat) (x : Str) : Bool := match N[i]? with | some y => decide (y = x) | none => false
def litB : F → Const → Bool
  | .non, .none => true
  | .bl b, .bool c => b == c
  | .int i, .int j => decide (i = j)
  | .str x, .str y => decide (x = y) && decide (x.length ≤ sizeLine) && PyData.strOk x
  | _, _ => false
def noneE : Option Expr → Bool
  | none => true | some _ => false
def m1E : Option Expr → Bool
  | some (.UnaryOp .USub (.Constant (.int 1) _ _) _) => true | _ => false
def mPs (N : List Str) (sc : Scope) (fnb : Str → Bool) : List Nat → List Expr → Bool
  | [], [] => true
  | i :: is, .Name x _ :: es => nmB N i x && locB sc fnb x && mPs N sc fnb is es
  | _, _ => false
def mP (N : List Str) (sc : Scope) (fnb : Str → Bool) : Pat → Expr → Bool
  | .one i, .Name x _ => nmB N i x && locB sc fnb x
  | .tup is, .Tuple es _ _ => mPs N sc fnb is es
  | _, _ => false
def ownOf (N : List Str) (p : Pat) : List (Str × Nat) := p.slots.map fun i => (N.getD i Str.empty, i)
def isTupE : Expr → Bool
  | .Tuple .. => true | _ => false
def freeB (St : Stat) (sc : Scope) (x : Str) : Bool := glB sc x && St.free.contains x
def tyE (St : Stat) (sc : Scope) : Ty → Expr → Bool
  | t, .Name x _ => decide (x = Str.ofString t.name) && freeB St sc x
  | _, _ => false
def tyEs (St : Stat) (sc : Scope) : List Ty → List Expr → Bool
  | [], [] => true
  | t :: ts, e :: es => tyE St sc t e && tyEs St sc ts es
  | _, _ => false
def atG (St : Stat) (f : Nat) (x : Str) : Bool := match St.at_[f]? with | some (.glob y) => decide (y = x) | _ => false
def atM (St : Stat) (f c : Nat) (m : Str) : Bool := match St.at_[f]? with | some (.meth d y) => decide (d = c) && decide (y = m) | _ => false
def notIte : E → Bool
  | .ite .. => false | _ => true
section match_
variable (St : Stat) (N : List Str)
mutual
/-- x is e, in a block of this scope -/
def mE : E → Scope → (Str → Bool) → Expr → Bool
  | .k d, _, _, x => (match x with | .Constant c _ _ => litB d c | _ => false)
  | .g y d, sc, _, x => (match x with | .Name z _ => decide (z = y) && glB sc z && St.gls.any fun q => decide (q.1 = y) && F.beq q.2 d | _ => false)
  | .v i, sc, _, x => (match x with | .Name z _ => nmB N i z && visB sc z | _ => false)
  | .bin o a b, sc, fnb, x => (match x with | .BinOp p op q _ => decide (op = o.op) && mE a sc fnb p && mE b sc fnb q | _ => false)
  | .neg a, sc, fnb, x => (match x with | .UnaryOp op p _ => decide (op = UnaryOp.USub) && mE a sc fnb p | _ => false)
  | .cmp o a b, sc, fnb, x => (match x with | .Compare p [op] [q] _ => decide (op = o.op) && mE a sc fnb p && mE b sc fnb q | _ => false)
  | .chn o o' a b c, sc, fnb, x => (match x with | .Compare p [op, op'] [q, r] _ => decide (op = o.op) && decide (op' = o'.op) && mE a sc fnb p && mE b sc fnb q && mE c sc fnb r | _ => false)
  | .and l, sc, fnb, x => (match x with | .BoolOp .And xs _ => l.all notIte && mEs l sc fnb xs | _ => false)
  | .or l, sc, fnb, x => (match x with | .BoolOp .Or xs _ => l.all notIte && mEs l sc fnb xs | _ => false)
  | .not a, sc, fnb, x => (match x with | .UnaryOp op p _ => decide (op = UnaryOp.Not) && notIte a && mE a sc fnb p | _ => false)
  | .ite c a b, sc, fnb, x => (match x with | .IfExp r p q _ => notIte c && mE c sc fnb r && mE a sc fnb p && mE b sc fnb q | _ => false)
  | .tup l, sc, fnb, x => (match x with | .Tuple xs _ _ => mEs l sc fnb xs | _ => false)
  | .lst _ l, sc, fnb, x => (match x with | .List xs _ => mEs l sc fnb xs | _ => false)
  | .dic _, _, _, x => (match x with | .Dict [] [] _ => true | _ => false)
  | .idx a i, sc, fnb, x => (match x with | .Subscript p q _ => mE a sc fnb p && mE i sc fnb q | _ => false)
  | .sl _ a lo hi, sc, fnb, x => (match x with | .Subscript p (.Slice l h none _) _ => mE a sc fnb p && mO lo sc fnb l && mO hi sc fnb h | _ => false)
  | .rev _ a, sc, fnb, x => (match x with | .Subscript p (.Slice none none (some (.UnaryOp .USub (.Constant (.int 1) _ _) _)) _) _ => mE a sc fnb p | _ => false)
  | .call f l, sc, fnb, x => (match x with | .Call (.Name y _) xs [] _ => glB sc y && atG St f y && mEs l sc fnb xs | _ => false)
  | .calli f l, sc, fnb, x => (match x with | .Call (.Name y _) xs [] _ => glB sc y && atG St f y && mEs l sc fnb xs | _ => false)
  | .make c f l, sc, fnb, x => (match x with | .Call (.Name y _) xs [] _ => glB sc y && atM St f c "__init__" && (match St.cls[c]? with | some d => decide (d.name = y) | none => false) && mEs l sc fnb xs | _ => false)
  | .fld c i o, sc, fnb, x => (match x with | .Attribute p y _ => !isCall p && (match St.cls[c]? with | some d => nmB d.fields i y | none => false) && mE o sc fnb p | _ => false)
  | .meth c f o l, sc, fnb, x => (match x with
    | .Call (.Attribute p y ap) xs [] cp => !isCall p && (ap.endLine == cp.line) && decide (xs.length < 29) && atM St f c y && (match St.cls[c]? with | some d => !d.fields.contains y | none => false) && mE o sc fnb p && mEs l sc fnb xs
    | _ => false)
  | .bi b l, sc, fnb, x => (match x with | .Call (.Name y _) (z :: xs) [] _ => decide (y = Str.ofString b.val.1) && freeB St sc y && mEs l sc fnb (z :: xs) | _ => false)
  | .bm b o l, sc, fnb, x => (match x with
    | .Call (.Attribute p y ap) xs [] cp => !isCall p && (ap.endLine == cp.line) && decide (xs.length < 29) && decide (y = b.name) && b.served xs.length && mE o sc fnb p && mEs l sc fnb xs
    | _ => false)
  | .isi a t, sc, fnb, x => (match x with | .Call (.Name y _) [p, q] [] _ => decide (y = ("isinstance" : Str)) && freeB St sc y && mE a sc fnb p && tyE St sc t q | _ => false)
  | .isiT _ _, _, _, _ => false
  | .lc _ it p c e, sc, fnb, x => (match x with
    | .ListComp elt [⟨tg, iter, ifs, k⟩] scope _ => decide (k = 0) && mIt it sc fnb tg iter && blkC N sc scope (ownOf N p) && mP N (relS scope sc) (fun y => scope.names.lookup y == some .cell) p tg &&
        (match c, ifs with | none, [] => true | some c, [i] => notIte c && mE c (relS scope sc) (fun y => scope.names.lookup y == some .cell) i | _, _ => false) && mE e (relS scope sc) (fun y => scope.names.lookup y == some .cell) elt
    | _ => false)
  | .fz i, sc, _, x => (match x with | .Name z _ => nmB N i z && visB sc z | _ => false)
  | .dst a, sc, fnb, x => (match x with | .Call (.Name y _) [.Call (.Name z _) [p] [] _] [] _ => decide (y = ("len" : Str)) && freeB St sc y && decide (z = ("set" : Str)) && freeB St sc z && mE a sc fnb p | _ => false)
def mEs : List E → Scope → (Str → Bool) → List Expr → Bool
  | [], _, _, xs => (match xs with | [] => true | _ :: _ => false)
  | e :: l, sc, fnb, xs => (match xs with | [] => false | x :: xs => mE e sc fnb x && mEs l sc fnb xs)
def mO : Option E → Scope → (Str → Bool) → Option Expr → Bool
  | none, _, _, x => noneE x
  | some e, sc, fnb, x => (match x with | some x => mE e sc fnb x | none => false)
/-- what is walked, to the target tg -/
def mIt : It → Scope → (Str → Bool) → Expr → Expr → Bool
  | .seq e, sc, fnb, _, x => mE e sc fnb x
  | .rng1 a, sc, fnb, _, x => (match x with | .Call (.Name y _) [p] [] _ => decide (y = ("range" : Str)) && freeB St sc y && mE a sc fnb p | _ => false)
  | .rng2 a b, sc, fnb, _, x => (match x with | .Call (.Name y _) [p, q] [] _ => decide (y = ("range" : Str)) && freeB St sc y && mE a sc fnb p && mE b sc fnb q | _ => false)
  | .enm a, sc, fnb, tg, x => (match x with | .Call (.Name y _) [p] [] _ => isTupE tg && decide (y = ("enumerate" : Str)) && freeB St sc y && mE a sc fnb p | _ => false)
  | .zip a b, sc, fnb, tg, x => (match x with | .Call (.Name y _) [p, q] [] _ => isTupE tg && decide (y = ("zip" : Str)) && freeB St sc y && mE a sc fnb p && mE b sc fnb q | _ => false)
  | .rev a, sc, fnb, _, x => (match x with | .Call (.Name y _) [p] [] _ => decide (y = ("reversed" : Str)) && freeB St sc y && mE a sc fnb p | _ => false)
end
end match_
end JM

set_option autoImplicit false
/-! J9: each form's rule, from its parts' rules. -/
namespace JM
open PySem PySem.Spec PyProof.Rows L2

theorem mE_ok {St : Stat} {N : List Str} {e : E} {sc : Scope} {fnb : Str → Bool} {x : Expr} (h : mE St N e sc fnb x = true) : okE x = true := by
  cases e <;> (unfold mE at h; first | (cases h; done) | (split at h <;> first | rfl | cases h))

/-- the promise of a def -/
def spF (T : Tb) (L : Lk) (n f : Nat) : Sp := fun vs H Q E => ∃ ρ s ds, SR L ρ s H ∧ VL L.K ρ H ds vs ∧ Good L (VR L.K) (fun x H' => E (.ref (L.xad x)) none H') ρ H Q (callF T n f ds s)
/-- a def of the text is as the tables say, at a level -/
structure FnK (P : Program) (w : World) (mg : Str → Option Value) (base : Heap) (St : Stat) (T : Tb) (L : Lk) (n f : Nat) (fa : Addr) : Prop where
  ok : ∃ fd ps, FnOk P w L.K mg base (L2.CX P w) n fa fd ps (spF T L n f) ∧ Binds L.K fd ps []
  kp : PySem.W.keepIn L.K (.ref fa) = true
/-- what the top has left -/
structure Links (P : Program) (w : World) (mg : Str → Option Value) (base : Heap) (St : Stat) (T : Tb) (L : Lk) (fad : Nat → Addr) : Prop where
  glob : ∀ (f : Nat) (x : Str), St.at_[f]? = some (.glob x) → mg x = some (.ref (fad f))
  meth : ∀ (f c : Nat) (m : Str), St.at_[f]? = some (.meth c m) → Meth L.K (L.cad c) m (fad f)
  cls : ∀ (c : Nat) (d : ClsS), St.cls[c]? = some d → mg d.name = some (.ref (L.cad c)) ∧ Cls L.K (L.cad c) ∧ (∀ y ∈ d.fields, NoAttr L.K (L.cad c) y) ∧ L.cfs c = d.fields ∧ d.fields.Nodup ∧ d.fields.length ≤ 100 ∧
    PySem.W.makesIn L.K (L.cad c) = true ∧ PySem.W.keepIn L.K (.ref (L.cad c)) = true
  gls : ∀ (x : Str) (d : F), (x, d) ∈ St.gls → ∃ u v, mg x = some u ∧ RelV v u ∧ ∀ ρ H, VF L.K ρ H d v
  free : ∀ x, St.free.contains x = true → mg x = none
  exc : ∀ (x : Nat) (y : Str), St.exs[x]? = some y → mg y = some (.ref (L.xad x)) ∧ PySem.W.excIn L.K (L.xad x) He.veBase "ValueError.__new__" = true ∧ PySem.W.keepIn L.K (.ref (L.xad x)) = true ∧
    PySem.W.subIn L.K (.ref (L.xad x)) (.type "BaseException") = some true ∧ PySem.W.typeIn L.K (.ref (L.xad x)) = some (.type "type")
  sub : ∀ (x y : Nat) (a b : Str), St.exs[x]? = some a → St.exs[y]? = some b → PySem.W.exmOne L.K (.ref (L.xad x)) (.ref (L.xad y)) = some (T.sub x y)
  rng : ∀ z, T.sub z z = true → ∃ a, St.exs[z]? = some a
  isx : ∀ (x : Nat) (a : Str), St.exs[x]? = some a → ExcC L.K (L.xad x) ∧ PySem.W.kitOne L.K (.ref (L.xad x)) (.type "ValueError") = some true ∧ ∀ (y : Nat) (b : Str), St.exs[y]? = some b → PySem.W.kitOne L.K (.ref (L.xad x)) (.ref (L.xad y)) = some (T.sub x y)
/-- a context in which the rules hold -/
structure XOk (St : Stat) (T : Tb) (L : Lk) (fad : Nat → Addr) (n : Nat) (X : Cx) (sc : Scope) (fnb : Str → Bool) (W : WX) : Prop where
  K : X.K = L.K
  lk : Links X.prog X.w X.mg X.base St T L fad
  fns : ∀ f a, St.at_[f]? = some a → FnK X.prog X.w X.mg X.base St T L n f (fad f)
  mks : ∀ m, n = m + 1 → ∀ f a, St.at_[f]? = some a → FnK X.prog X.w X.mg X.base St T L m f (fad f)
  nd : X.N.Nodup
  sc : X.env.scope = sc
  calm : X.calm = true
  room : Room n X.A
  tk : Takes X W
  fnl : ∀ x, fnb x = true → X.fn x = true
theorem XOk.hu {St : Stat} {T : Tb} {L : Lk} {fad : Nat → Addr} {n : Nat} {X : Cx} {sc : Scope} {fnb : Str → Bool} {W : WX} (ok : XOk St T L fad n X sc fnb W) : X.A.units + 100 < cLine := by
  have := ok.room.un; omega

def rO' (L : Lk) (f : D → D → Sto → R D) : R2 := fun x y H Q => ∃ W, rO L W f x y H Q
theorem OpR.ex {X : Cx} {L : Lk} {g : Value → Value → Sem Value} {f : D → D → Sto → R D} (h : ∀ W, OpR X g (rO L W f)) : OpR X g (rO' L f) :=
  fun pins s σ H x y v u Q I rx ry ⟨W, q⟩ => h W pins s σ H x y v u Q I rx ry q
theorem bo_ok {X : Cx} {L : Lk} (hK : X.K = L.K) (o : BO) : OpR X (binaryOp o.op) (rO' L o.ev) := OpR.ex fun W => by
  cases o with
  | add m => exact op_bAdd hK m
  | sub => exact op_bSub
  | mul m => exact op_bMul hK m
  | fdiv => exact op_bFdiv
  | mod => exact op_bMod
  | pow => exact op_bPow
theorem co_ok {X : Cx} {L : Lk} (hK : X.K = L.K) (hu : X.A.units + 100 < cLine) (o : CO) : OpR X (compareOp o.op) (rO' L o.ev) := OpR.ex fun W => by
  cases o with
  | eq => exact op_cEq hK hu
  | ne => exact op_cNe hK hu
  | lt => exact op_cLt
  | le => exact op_cLe
  | gt => exact op_cGt
  | ge => exact op_cGe
  | isin => exact op_cIn hK hu
  | nin => exact op_cNin hK hu
  | is_ => exact op_cIs
  | nis => exact op_cNis

section rules
variable {St : Stat} {T : Tb} {L : Lk} {fad : Nat → Addr} {n : Nat} {X : Cx} {sc : Scope} {fnb : Str → Bool} {W : WX}
variable {fa fb fc : Env' → Sto → R D} {p q r : Expr} {pos : Pos}
/-- two parts, then an operation on both values -/
theorem two {σ : L2.St} {H : Hp} {Q : VK} {g : D → D → Sto → R D} {rr : R2} (hr : ∀ W x y H Q, rO L W g x y H Q → rr x y H Q)
    (h : rTE L W (fun env s => (fa env s).bind fun d s => (fb env s).bind fun e s => g d e s) σ H Q) : tOp rr (rTE L W fa) (rTE L W fb) σ H Q := by
  obtain ⟨ρ, s, env, sr, er, g⟩ := h
  refine ⟨ρ, s, env, sr, er, (Good.bind (rel := VR L.K) g).imp fun v H1 ⟨ρ1, s1, d, e1, sr1, h1, g1⟩ => ?_⟩
  refine ⟨ρ1, s1, env, sr1, er.mono e1, (Good.bind (rel := VR L.K) g1).imp fun u H2 ⟨ρ2, s2, d2, e2, sr2, h2, g2⟩ => ?_⟩
  exact hr _ v u H2 Q ⟨ρ2, s2, d, d2, sr2, h1.mono e2, h2, g2⟩
theorem r_bin (ok : XOk St T L fad n X sc fnb W) (o : BO) (ha : PE X p (rTE L W fa)) (hb : PE X q (rTE L W fb)) :
    PE X (.BinOp p o.op q pos) (rTE L W fun env s => (fa env s).bind fun d s => (fb env s).bind fun e s => o.ev d e s) :=
  (pe_op (bo_ok ok.K o) ha hb).weak fun σ H Q h => two (fun W x y H Q h => ⟨W, h⟩) h
theorem r_cmp (ok : XOk St T L fad n X sc fnb W) (o : CO) (hq : okE q = true) (ha : PE X p (rTE L W fa)) (hb : PE X q (rTE L W fb)) :
    PE X (.Compare p [o.op] [q] pos) (rTE L W fun env s => (fa env s).bind fun d s => (fb env s).bind fun e s => o.ev d e s) :=
  (pe_cmpR (co_ok ok.K ok.hu o) ha hb (mark_ok hq)).weak fun σ H Q h => two (fun W x y H Q h => ⟨W, h⟩) h
theorem r_cmpT (ok : XOk St T L fad n X sc fnb W) (o : CO) (hq : okE q = true) (ha : PE X p (rTE L W fa)) (hb : PE X q (rTE L W fb)) :
    PT X (.Compare p [o.op] [q] pos) (rTT L W fun env s => (fa env s).bind fun d s => (fb env s).bind fun e s => o.ev d e s) :=
  (pt_cmpR (co_ok ok.K ok.hu o) ha hb (mark_ok hq)).weak fun σ H Q ⟨ρ, s, env, sr, er, g⟩ => two (Q := fun v H1 => ∃ c, v = .bl c ∧ Q c H1) (fun W x y H Q h => ⟨W, h⟩) ⟨ρ, s, env, sr, er, g.val⟩
theorem r_neg (ha : PE X p (rTE L W fa)) : PE X (.UnaryOp .USub p pos) (rTE L W fun env s => (fa env s).bind fun d s => negD d s) := by
  refine (pe_un un_neg ha).weak fun σ H Q ⟨ρ, s, env, sr, er, g⟩ => ⟨ρ, s, env, sr, er, (Good.bind (rel := VR L.K) g).imp fun v H1 ⟨ρ1, s1, d, e1, sr1, h1, g1⟩ => ?_⟩
  unfold negD at g1
  split at g1
  · obtain rfl := h1.int
    exact ⟨_, rfl, g1.here sr1 (vInt _)⟩
  · exact g1.elim
/-- a part that is a truth, as a value -/
theorem bl_of {σ : L2.St} {H : Hp} {Q : VK} {f : Bool → Sto → R D} {k : D → Sto → R D} (hk : ∀ d s, k d s = match d with | .f (.bl b) => f b s | _ => .fail) (h : rTE L W (fun env s => (fa env s).bind k) σ H Q) :
    rTE L W fa σ H fun x H1 => ∃ c, x = .bl c ∧ ∃ ρ s1 env, SR L ρ s1 H1 ∧ ER L.K ρ H1 env σ ∧ Good L (VR L.K) (wx L W σ) ρ H1 Q (f c s1) := by
  obtain ⟨ρ, s, env, sr, er, g⟩ := h
  refine ⟨ρ, s, env, sr, er, (GoodB.of g hk).val.imp fun v H1 ⟨c, hv, ρ1, s1, e1, sr1, g1⟩ => ?_⟩
  exact ⟨c, hv, ρ1, s1, env, sr1, er.mono e1, g1⟩
theorem r_not (ha : PE X p (rTE L W fa)) : PE X (.UnaryOp .Not p pos) (rTE L W fun env s => (fa env s).bind fun d s => (match d with | .f (.bl b) => .ok (.f (.bl !b)) s | _ => .fail)) := by
  refine (pe_not ha).weak fun σ H Q h => ?_
  obtain ⟨ρ, s, env, sr, er, g⟩ := bl_of (f := fun b s => .ok (.f (.bl !b)) s) (fun d s => rfl) h
  exact ⟨ρ, s, env, sr, er, g.imp fun v H1 ⟨c, hv, ρ1, s1, env1, sr1, _, g1⟩ => ⟨c, hv, g1.here sr1 (vBl _)⟩⟩
theorem r_notT (ha : PT X p (rTT L W fa)) : PT X (.UnaryOp .Not p pos) (rTT L W fun env s => (fa env s).bind fun d s => (match d with | .f (.bl b) => .ok (.f (.bl !b)) s | _ => .fail)) := by
  refine (pt_not ha).weak fun σ H Q ⟨ρ, s, env, sr, er, g⟩ => ⟨ρ, s, env, sr, er, ?_⟩
  dsimp only at g
  cases e : fa env s with
  | ok d s1 =>
    rw [e] at g
    cases d with
    | f x =>
      cases x with
      | bl b => exact g
      | _ => exact g.elim
    | loc n => exact g.elim
    | tup l => exact g.elim
  | exc x s1 => rw [e] at g; exact g
  | fail => rw [e] at g; exact g.elim
/-- a value that is a truth, as a test -/
theorem r_test (hp : okE p = true) (hk : (match p with | .UnaryOp .Not _ _ => false | .BoolOp .. => false | .IfExp .. => false | .Compare .. => false | _ => true) = true) (ha : PE X p (rTE L W fa)) : PT X p (rTT L W fa) :=
  (pt_val ha (true_ok hp hk)).weak fun σ H Q ⟨ρ, s, env, sr, er, g⟩ => ⟨ρ, s, env, sr, er, g.val⟩
theorem r_ite (hc : PT X r (rTT L W fc)) (ha : PE X p (rTE L W fa)) (hb : PE X q (rTE L W fb)) :
    PE X (.IfExp r p q pos) (rTE L W fun env s => (fc env s).bind fun d s => (match d with | .f (.bl true) => fa env s | .f (.bl false) => fb env s | _ => .fail)) := by
  refine (pe_ifExp hc ha hb).weak fun σ H Q ⟨ρ, s, env, sr, er, g⟩ => ⟨ρ, s, env, sr, er, ?_⟩
  have g' := GoodB.of (f := fun b s => if b then fa env s else fb env s) g (fun d s => by
    cases d with
    | f x => cases x with
      | bl b => cases b <;> rfl
      | _ => rfl
    | _ => rfl)
  unfold GoodB at g' ⊢
  split at g'
  · intro ρ' H' e sr'
    obtain ⟨ρ1, s1, e1, sr1, g1⟩ := g' ρ' H' e sr'
    rename_i b _ _
    cases b with
    | true => exact ⟨ρ1, s1, env, sr1, er.mono e1, g1⟩
    | false => exact ⟨ρ1, s1, env, sr1, er.mono e1, g1⟩
  · exact g'
  · exact g'.elim
/-! ### constants, names -/
theorem r_k {d : F} {c : Const} {j : Nat} (h : litB d c = true) : PE X (.Constant c j pos) (rTE L W fun _ s => .ok (.f d) s) := by
  unfold litB at h
  split at h
  · exact pe_non.weak fun σ H Q ⟨ρ, s, env, sr, er, g⟩ => g.here sr vNon
  · obtain rfl := eq_of_beq h
    exact pe_bl.weak fun σ H Q ⟨ρ, s, env, sr, er, g⟩ => g.here sr (vBl _)
  · obtain rfl := of_decide_eq_true h
    exact pe_int.weak fun σ H Q ⟨ρ, s, env, sr, er, g⟩ => g.here sr (vInt _)
  · simp only [Bool.and_eq_true, decide_eq_true_eq] at h
    obtain ⟨⟨rfl, h1⟩, h2⟩ := h
    exact pe_str.weak fun σ H Q ⟨ρ, s, env, sr, er, g⟩ => g.here sr (vStr h1 h2)
  · cases h
theorem glB_ok {y : Str} (hs : X.env.scope = sc) (h : glB sc y = true) : Gl X y ∧ (y == ("__debug__" : Str)) = false ∧ y ≠ ("__name__" : Str) := by
  unfold glB at h
  simp only [Bool.and_eq_true, Bool.not_eq_true'] at h
  obtain ⟨⟨h1, h2⟩, h3⟩ := h
  refine ⟨?_, h2, fun z => by rw [z] at h3; simp at h3⟩
  unfold Gl Env.kindOf
  rw [hs]
  split at h1
  · assumption
  · cases h1
theorem r_g (ok : XOk St T L fad n X sc fnb W) {y : Str} {d : F} (h : glB sc y = true) (k : (St.gls.any fun q => decide (q.1 = y) && F.beq q.2 d) = true) : PE X (.Name y pos) (rTE L W fun _ s => .ok (.f d) s) := by
  obtain ⟨⟨z, d'⟩, hq, e⟩ := List.any_eq_true.mp k
  simp only [Bool.and_eq_true, decide_eq_true_eq] at e
  obtain ⟨rfl, e2⟩ := e
  obtain rfl := F.beq_eq e2
  obtain ⟨u, v, hm, r, hv⟩ := ok.lk.gls _ _ hq
  obtain ⟨g1, g2, _⟩ := glB_ok ok.sc h
  exact (pe_glob g1 hm r g2).weak fun σ H Q ⟨ρ, s, env, sr, er, g⟩ => g.here sr (VR.f_iff.mpr (hv ρ H))
theorem nmB_ok {N : List Str} {i : Nat} {x : Str} (h : nmB N i x = true) : N[i]? = some x := by
  unfold nmB at h
  split at h
  · rename_i y hy; rw [hy, of_decide_eq_true h]
  · cases h
theorem r_v {i : Nat} {y : Str} (hs : X.env.scope = sc) (h : nmB X.N i y = true) (k : visB sc y = true) : PE X (.Name y pos) (rTE L W fun env s => (match env[i]? with | some (some d) => .ok d s | _ => .fail)) := by
  unfold visB at k
  simp only [Bool.and_eq_true, Bool.not_eq_true'] at k
  obtain ⟨⟨h1, h2⟩, h3⟩ := k
  have hv : Vis X.env.scope y := by
    unfold Vis
    rw [hs]
    split at h1
    · exact .inl (by assumption)
    · exact .inr (.inl (by assumption))
    · exact .inr (.inr (by assumption))
    · cases h1
  refine (pe_var (nmB_ok h) hv h2 h3).weak fun σ H Q ⟨ρ, s, env, sr, er, g⟩ => ?_
  dsimp only at g
  split at g
  · rename_i d hd
    obtain ⟨v, hv, r⟩ := er.get i d hd
    exact ⟨v, hv, g.here sr r⟩
  · exact g.elim

/-- behind it, a thing may be locked for good -/
def fzQ (Q : VK) : VK := fun v H => Q v H ∨ ∃ d u, H d = some u ∧ Mut (some u) ∧ ∀ od, Q v (upd H d (.frz od u))
theorem pe_fz {e : Expr} {t : TE} (h : PE X e t) : PE X e (fun σ H Q => t σ H (fzQ Q)) := by
  refine ⟨fun pins s σ H Q I hw => ?_⟩
  refine thn (h.run pins s σ H _ I hw) fun v s1 ⟨x, H1, I1, r, q⟩ => ?_
  rcases q with q | ⟨d, u, hd, mu, q⟩
  · exact ⟨x, H1, I1, r, q⟩
  · obtain ⟨od, I2⟩ := I1.lock hd mu
    exact ⟨x, _, I2, r, q od⟩
theorem allFK_ok {κ : Type} {K : PySem.W.Frag} {ρ : Ro} {H : Hp} : ∀ {l : List (κ × D)} {ys : List (κ × F)} {xs : List (κ × V)}, allFK l = some ys → KVR (VR K ρ H) l xs → KVR (VF K ρ H) ys xs ∧ ys.length = l.length
  | [], ys, xs, h, p => by cases h; cases p; exact ⟨.nil, rfl⟩
  | (kk, .f x) :: r, ys, xs, h, p => by
    unfold allFK at h
    cases e2 : allFK r with
    | none => rw [e2] at h; cases h
    | some zs =>
      rw [e2] at h; cases h
      cases p with
      | cons h1 h2 =>
        obtain ⟨i1, i2⟩ := allFK_ok e2 h2
        exact ⟨.cons ⟨h1.1, VR.f_iff.mp h1.2⟩ i1, by rw [List.length_cons, List.length_cons, i2]⟩
  | (_, .loc _) :: _, _, _, h, _ => by cases h
  | (_, .tup _) :: _, _, _, h, _ => by cases h
theorem Ex.del {ρ : Ro} {H : Hp} {n : Nat} {a : Addr} {o : HO} (h : ρ.pl[n]? = some (some a)) : Ex ρ H (ρ.del n) (upd H a o) where
  len := by simp [Ro.del]
  ent := fun m hm => by
    show (ρ.pl.set n none)[m]? = _ ∨ _
    by_cases e : n = m
    · subst e; right
      show (ρ.pl.set n none)[n]? = _
      rw [List.getElem?_set_self hm]
    · left; rw [List.getElem?_set_ne e]
  new := fun b hb => by
    rcases List.mem_or_eq_of_mem_set hb with q | q
    · exact .inl q
    · cases q
  keep := fun b u hb nb => by rw [upd_ne (fun e => by subst e; exact nb (List.mem_of_getElem? h))]; exact hb
  hd := fun _ h => .inl h
  hk := fun _ h => h
  dom := fun b u hb => by
    by_cases e : b = a
    · subst e; exact ⟨o, upd_same⟩
    · exact ⟨u, by rw [upd_ne e]; exact hb⟩
theorem SR.delD {ρ : Ro} {s : Sto} {H : Hp} {n : Nat} {a : Addr} {o : HO} (r : SR L ρ s H) (h : ρ.pl[n]? = some (some a)) : SR L (ρ.del n) (s.set n .dead) (upd H a o) := by
  have at_ne : ∀ {m : Nat} {b : Addr}, (ρ.del n).pl[m]? = some (some b) → n ≠ m ∧ ρ.pl[m]? = some (some b) := fun {m b} q => by
    have q : (ρ.pl.set n none)[m]? = some (some b) := q
    by_cases e : n = m
    · subst e
      rw [List.getElem?_set_self (List.getElem?_eq_some_iff.mp h).1] at q; cases q
    · rw [List.getElem?_set_ne e] at q; exact ⟨e, q⟩
  refine ⟨by simp [Ro.del, r.len], fun m b c h1 h2 => ?_, fun m hm => ?_, fun m k b h1 h2 => r.inj m k b (at_ne h1).2 (at_ne h2).2, hdom_upd r.hdom, fun b hb => ?_⟩
  · obtain ⟨e, q⟩ := at_ne h1
    rw [List.getElem?_set_ne e] at h2
    have nb : b ≠ a := fun z => by subst z; exact e (r.inj n m b h q)
    exact (r.cell m b c q h2).mono (Ex.del h) fun u hu => by rw [upd_ne nb]; exact hu
  · by_cases e : n = m
    · subst e
      rw [List.getElem?_set_self (by rw [← r.len]; exact (List.getElem?_eq_some_iff.mp h).1)]
    · have hm : (ρ.pl.set n none)[m]? = some none := hm
      rw [List.getElem?_set_ne e] at hm ⊢
      exact r.gone m hm
  · obtain ⟨m, hm⟩ := List.mem_iff_getElem?.mp hb
    exact r.hpl b (List.mem_of_getElem? (at_ne hm).2)
theorem SR.del_no {ρ : Ro} {s : Sto} {H : Hp} {n : Nat} {a : Addr} (r : SR L ρ s H) (h : ρ.pl[n]? = some (some a)) : (ρ.del n).no a := by
  refine ⟨fun z => ?_, r.hpl a (List.mem_of_getElem? h)⟩
  obtain ⟨m, hm⟩ := List.mem_iff_getElem?.mp z
  have hm : (ρ.pl.set n none)[m]? = some (some a) := hm
  by_cases e : n = m
  · subst e
    rw [List.getElem?_set_self (List.getElem?_eq_some_iff.mp h).1] at hm; cases hm
  · rw [List.getElem?_set_ne e] at hm
    exact e (r.inj n m a h hm)
theorem r_fz {i : Nat} {y : Str} (hs : X.env.scope = sc) (h : nmB X.N i y = true) (k : visB sc y = true) : PE X (.Name y pos) (rTE L W fun env s => fzD env i s) := by
  unfold visB at k
  simp only [Bool.and_eq_true, Bool.not_eq_true'] at k
  obtain ⟨⟨h1, h2⟩, h3⟩ := k
  have hv : Vis X.env.scope y := by
    unfold Vis
    rw [hs]
    split at h1
    · exact .inl (by assumption)
    · exact .inr (.inl (by assumption))
    · exact .inr (.inr (by assumption))
    · cases h1
  refine (pe_fz (pe_var (nmB_ok h) hv h2 h3)).weak fun σ H Q ⟨ρ, s, env, sr, er, g⟩ => ?_
  unfold fzD at g
  dsimp only at g
  split at g
  · rename_i n hn
    split at g
    · rename_i l hl
      split at g
      · rename_i hlen
        cases ef : allFK l with
        | none => rw [ef] at g; exact g.elim
        | some ys =>
          rw [ef] at g
          obtain ⟨v, hv, r⟩ := er.get i _ hn
          obtain ⟨a, rfl, hk, xs, h1, pl⟩ := sr.at r hl (by intro z; cases z)
          obtain ⟨k1, k2⟩ := allFK_ok ef pl
          refine ⟨_, hv, .inr ⟨a, .dK xs, h1, trivial, fun od => g (ρ.del n) _ _ (Ex.del hk) (sr.delD hk) (VR.f_iff.mpr (VF.dct_iff.mpr ⟨a, xs, rfl, ⟨⟨od, upd_same⟩, sr.del_no hk⟩, by rw [k2]; exact hlen, ?_⟩))⟩⟩
          exact Paired.mapP k1 fun _ _ q => ⟨q.1, VF.mono (Ex.del hk) q.2⟩
      · exact g.elim
    · exact g.elim
  · exact g.elim

/-! ### and, or -/
theorem r_and1 (ha : PE X p (rTE L W fa)) {op : BoolOp} : PE X (.BoolOp op [p] pos) (rTE L W fun env s => (fa env s).bind fun d s => (match d with | .f (.bl b) => .ok (.f (.bl b)) s | _ => .fail)) := by
  refine (pe_one ha).weak fun σ H Q h => ?_
  obtain ⟨ρ, s, env, sr, er, g⟩ := bl_of (f := fun b s => .ok (.f (.bl b)) s) (fun d s => rfl) h
  exact ⟨ρ, s, env, sr, er, g.imp fun v H1 ⟨c, hv, ρ1, s1, env1, sr1, _, g1⟩ => by subst hv; exact g1.here sr1 (vBl _)⟩
theorem r_andC {rest : List Expr} (ha : PE X p (rTE L W fa)) (hb : PE X (.BoolOp .And (q :: rest) pos) (rTE L W fb)) :
    PE X (.BoolOp .And (p :: q :: rest) pos) (rTE L W fun env s => (fa env s).bind fun d s => (match d with | .f (.bl b) => if b then fb env s else .ok (.f (.bl false)) s | _ => .fail)) := by
  refine (pe_and ha hb).weak fun σ H Q ⟨ρ, s, env, sr, er, g⟩ => ?_
  refine ⟨ρ, s, env, sr, er, (GoodB.of (f := fun b s => if b then fb env s else .ok (.f (.bl false)) s) g fun d s => rfl).val.imp fun v H1 ⟨c, hv, ρ1, s1, e1, sr1, g1⟩ => ⟨c, hv, ?_⟩⟩
  cases c with
  | true => exact ⟨ρ1, s1, env, sr1, er.mono e1, g1⟩
  | false => exact g1.here sr1 (vBl _)
theorem r_orC {rest : List Expr} (ha : PE X p (rTE L W fa)) (hb : PE X (.BoolOp .Or (q :: rest) pos) (rTE L W fb)) :
    PE X (.BoolOp .Or (p :: q :: rest) pos) (rTE L W fun env s => (fa env s).bind fun d s => (match d with | .f (.bl b) => if b then .ok (.f (.bl true)) s else fb env s | _ => .fail)) := by
  refine (pe_or ha hb).weak fun σ H Q ⟨ρ, s, env, sr, er, g⟩ => ?_
  refine ⟨ρ, s, env, sr, er, (GoodB.of (f := fun b s => if b then .ok (.f (.bl true)) s else fb env s) g fun d s => rfl).val.imp fun v H1 ⟨c, hv, ρ1, s1, e1, sr1, g1⟩ => ⟨c, hv, ?_⟩⟩
  cases c with
  | true => exact g1.here sr1 (vBl _)
  | false => exact ⟨ρ1, s1, env, sr1, er.mono e1, g1⟩
/-- a test whose outcome is a truth goes on -/
theorem GoodB.step {ρ : Ro} {H : Hp} {Q : Bool → Hp → Prop} {W' : Nat → Hp → Prop} {r : R D} {f : Bool → Sto → R D} {k : D → Sto → R D} (g : GoodB L W' ρ H Q (r.bind k)) (hk : ∀ d s, k d s = match d with | .f (.bl b) => f b s | _ => .fail) :
    GoodB L W' ρ H (fun b H1 => ∃ ρ1 s1, Ex ρ H ρ1 H1 ∧ SR L ρ1 s1 H1 ∧ GoodB L W' ρ1 H1 Q (f b s1)) r := by
  have later : ∀ {o : R D} {ρ1 H1}, Ex ρ H ρ1 H1 → GoodB L W' ρ H Q o → GoodB L W' ρ1 H1 Q o := fun {o ρ1 H1} e g => by
    unfold GoodB at g ⊢
    split at g
    · exact fun ρ' H' x => g ρ' H' (e.trans x)
    · exact fun ρ' H' x => g ρ' H' (e.trans x)
    · exact g.elim
  cases r with
  | ok d s =>
    have g : GoodB L W' ρ H Q (k d s) := g
    rw [hk] at g
    cases d with
    | f x =>
      cases x with
      | bl b => exact fun ρ' H' e sr => ⟨ρ', s, e, sr, later e g⟩
      | _ => exact g.elim
    | loc n => exact g.elim
    | tup l => exact g.elim
  | exc x s => exact g
  | fail => exact g.elim
theorem GoodB.imp {ρ : Ro} {H : Hp} {Q Q' : Bool → Hp → Prop} {W' : Nat → Hp → Prop} {r : R D} (g : GoodB L W' ρ H Q r) (h : ∀ b H', Q b H' → Q' b H') : GoodB L W' ρ H Q' r := by
  unfold GoodB at g ⊢
  split at g
  · exact fun ρ' H' e sr => h _ _ (g ρ' H' e sr)
  · exact g
  · exact g.elim
theorem GoodB.here {ρ : Ro} {H : Hp} {Q : Bool → Hp → Prop} {W' : Nat → Hp → Prop} {b : Bool} {s : Sto} (g : GoodB L W' ρ H Q (.ok (.f (.bl b)) s)) (sr : SR L ρ s H) : Q b H := g ρ H Ex.refl sr
theorem r_and1T (ha : PT X p (rTT L W fa)) : PW X (.BoolOp .And [p] pos) (rTT L W fun env s => (fa env s).bind fun d s => (match d with | .f (.bl b) => .ok (.f (.bl b)) s | _ => .fail)) := by
  refine (pw_and1 ha).weak fun σ H Q ⟨ρ, s, env, sr, er, g⟩ => ⟨ρ, s, env, sr, er, ?_⟩
  exact (GoodB.step (f := fun b s => .ok (.f (.bl b)) s) g fun d s => rfl).imp fun b H1 ⟨ρ1, s1, e1, sr1, g1⟩ => g1.here sr1
theorem r_or1T (ha : PT X p (rTT L W fa)) : PW X (.BoolOp .Or [p] pos) (rTT L W fun env s => (fa env s).bind fun d s => (match d with | .f (.bl b) => .ok (.f (.bl b)) s | _ => .fail)) := by
  refine (pw_or1 ha).weak fun σ H Q ⟨ρ, s, env, sr, er, g⟩ => ⟨ρ, s, env, sr, er, ?_⟩
  exact (GoodB.step (f := fun b s => .ok (.f (.bl b)) s) g fun d s => rfl).imp fun b H1 ⟨ρ1, s1, e1, sr1, g1⟩ => g1.here sr1
theorem r_andCT {rest : List Expr} (ha : PT X p (rTT L W fa)) (hb : PW X (.BoolOp .And (q :: rest) pos) (rTT L W fb)) :
    PW X (.BoolOp .And (p :: q :: rest) pos) (rTT L W fun env s => (fa env s).bind fun d s => (match d with | .f (.bl b) => if b then fb env s else .ok (.f (.bl false)) s | _ => .fail)) := by
  refine (pw_and ha hb).weak fun σ H Q ⟨ρ, s, env, sr, er, g⟩ => ⟨ρ, s, env, sr, er, ?_⟩
  refine (GoodB.step (f := fun b s => if b then fb env s else .ok (.f (.bl false)) s) g fun d s => rfl).imp fun c H1 ⟨ρ1, s1, e1, sr1, g1⟩ => ?_
  cases c with
  | true => exact ⟨ρ1, s1, env, sr1, er.mono e1, g1⟩
  | false => exact g1.here sr1
theorem r_orCT {rest : List Expr} (ha : PT X p (rTT L W fa)) (hb : PW X (.BoolOp .Or (q :: rest) pos) (rTT L W fb)) :
    PW X (.BoolOp .Or (p :: q :: rest) pos) (rTT L W fun env s => (fa env s).bind fun d s => (match d with | .f (.bl b) => if b then .ok (.f (.bl true)) s else fb env s | _ => .fail)) := by
  refine (pw_or ha hb).weak fun σ H Q ⟨ρ, s, env, sr, er, g⟩ => ⟨ρ, s, env, sr, er, ?_⟩
  refine (GoodB.step (f := fun b s => if b then .ok (.f (.bl true)) s else fb env s) g fun d s => rfl).imp fun c H1 ⟨ρ1, s1, e1, sr1, g1⟩ => ?_
  cases c with
  | true => exact g1.here sr1
  | false => exact ⟨ρ1, s1, env, sr1, er.mono e1, g1⟩

/-! ### a < b < c -/
theorem marks_ok {a b : Expr} (ha : okE a = true) (hb : okE b = true) {o o' : CmpOp} : lastMarks [o, o'] [a, b] = false := by
  show behindInMarks o' b = false
  exact mark_ok hb
theorem chain_ok {o o' : CO} {σ : L2.St} {H : Hp} {Q : VK} (h : rTE L W (fun env s => (fa env s).bind fun d s => (fb env s).bind fun e s => (o.ev d e s).bind fun r s => (match r with
      | .f (.bl true) => (fc env s).bind fun x s => o'.ev e x s
      | .f (.bl false) => .ok (.f (.bl false)) s
      | _ => .fail)) σ H Q) : tChain (rO' L o.ev) (rO' L o'.ev) (rTE L W fa) (rTE L W fb) (rTE L W fc) σ H Q := by
  obtain ⟨ρ, s, env, sr, er, g⟩ := h
  refine ⟨ρ, s, env, sr, er, (Good.bind (rel := VR L.K) g).imp fun v H1 ⟨ρ1, s1, d, e1, sr1, h1, g1⟩ => ?_⟩
  refine ⟨ρ1, s1, env, sr1, er.mono e1, (Good.bind (rel := VR L.K) g1).imp fun u H2 ⟨ρ2, s2, d2, e2, sr2, h2, g2⟩ => ?_⟩
  refine ⟨wx L W σ, ρ2, s2, d, d2, sr2, h1.mono e2, h2, ?_⟩
  refine (GoodB.of (f := fun b s => if b then (fc env s).bind fun x s => o'.ev d2 x s else .ok (.f (.bl false)) s) g2 (fun d s => by
    cases d with
    | f x => cases x with
      | bl b => cases b <;> rfl
      | _ => rfl
    | _ => rfl)).val.imp fun z H3 ⟨c, hz, ρ3, s3, e3, sr3, g3⟩ => ⟨c, hz, ?_⟩
  cases c with
  | true =>
    refine iteT ⟨ρ3, s3, env, sr3, (er.mono e1).mono (e2.trans e3), (Good.bind (rel := VR L.K) g3).imp fun w H4 ⟨ρ4, s4, d4, e4, sr4, h4, g4⟩ => ?_⟩
    exact ⟨_, ρ4, s4, d2, d4, sr4, h2.mono (e3.trans e4), h4, g4⟩
  | false => exact iteF (g3.here sr3 (vBl _))
theorem r_chn (ok : XOk St T L fad n X sc fnb W) (o o' : CO) (hq : okE q = true) (hr : okE r = true) (ha : PE X p (rTE L W fa)) (hb : PE X q (rTE L W fb)) (hc : PE X r (rTE L W fc)) :
    PE X (.Compare p [o.op, o'.op] [q, r] pos) (rTE L W fun env s => (fa env s).bind fun d s => (fb env s).bind fun e s => (o.ev d e s).bind fun r s => (match r with
      | .f (.bl true) => (fc env s).bind fun x s => o'.ev e x s
      | .f (.bl false) => .ok (.f (.bl false)) s
      | _ => .fail)) :=
  (pe_chain (co_ok ok.K ok.hu o) (co_ok ok.K ok.hu o') ha hb hc (marks_ok hq hr)).weak fun σ H Q h => chain_ok h
theorem r_chnT (ok : XOk St T L fad n X sc fnb W) (o o' : CO) (hq : okE q = true) (hr : okE r = true) (ha : PE X p (rTE L W fa)) (hb : PE X q (rTE L W fb)) (hc : PE X r (rTE L W fc)) :
    PT X (.Compare p [o.op, o'.op] [q, r] pos) (rTT L W fun env s => (fa env s).bind fun d s => (fb env s).bind fun e s => (o.ev d e s).bind fun r s => (match r with
      | .f (.bl true) => (fc env s).bind fun x s => o'.ev e x s
      | .f (.bl false) => .ok (.f (.bl false)) s
      | _ => .fail)) :=
  (pt_chain (co_ok ok.K ok.hu o) (co_ok ok.K ok.hu o') ha hb hc (marks_ok hq hr)).weak fun σ H Q ⟨ρ, s, env, sr, er, g⟩ => chain_ok (Q := fun v H1 => ∃ c, v = .bl c ∧ Q c H1) ⟨ρ, s, env, sr, er, g.val⟩

/-! ### argument lists, displays -/
variable {fs : Env' → Sto → R (List D)} {es : List Expr}
theorem r_nil : PA X [] (rTA L W fun _ s => .ok [] s) := pa_nil.weak fun σ H Q ⟨ρ, s, env, sr, er, g⟩ => g.here sr .nil
theorem r_cons (hp : okE p = true) (ha : PE X p (rTE L W fa)) (hs : PA X es (rTA L W fs)) : PA X (p :: es) (rTA L W fun env s => (fa env s).bind fun d s => (fs env s).bind fun ds s => .ok (d :: ds) s) := by
  refine (pa_cons ha hs (star_ok hp)).weak fun σ H Q ⟨ρ, s, env, sr, er, g⟩ => ?_
  refine ⟨ρ, s, env, sr, er, (Good.bind (rel := VR L.K) g).imp fun v H1 ⟨ρ1, s1, d, e1, sr1, h1, g1⟩ => ?_⟩
  refine ⟨ρ1, s1, env, sr1, er.mono e1, (Good.bind (rel := VL L.K) g1).imp fun u H2 ⟨ρ2, s2, d2, e2, sr2, h2, g2⟩ => ?_⟩
  exact g2.here sr2 (.cons (h1.mono e2) h2)
theorem r_tup {k : Nat} (hs : PA X es (rTA L W fs)) : PE X (.Tuple es k pos) (rTE L W fun env s => (fs env s).bind fun ds s => newT ds s) :=
  (pe_tup hs).weak fun σ H Q ⟨ρ, s, env, sr, er, g⟩ => ⟨ρ, s, env, sr, er, (Good.bind (rel := VL L.K) g).imp fun u H2 ⟨ρ2, s2, d2, e2, sr2, h2, g2⟩ => newT_ok g2 sr2 h2⟩
theorem r_lst {m : Bool} (hs : PA X es (rTA L W fs)) : PE X (.List es pos) (rTE L W fun env s => (fs env s).bind fun ds s => newL m ds s) :=
  (pe_lst hs).weak fun σ H Q ⟨ρ, s, env, sr, er, g⟩ => ⟨ρ, s, env, sr, er, (Good.bind (rel := VL L.K) g).imp fun u H2 ⟨ρ2, s2, d2, e2, sr2, h2, g2⟩ => newL_ok g2 sr2 h2⟩
theorem newPlace {c : Cell} {o : HO} {ρ : Ro} {s : Sto} {H : Hp} {Q : VK} {W' : Nat → Hp → Prop} (g : Good L (VR L.K) W' ρ H Q (.ok (.loc s.length) (s ++ [c]))) (sr : SR L ρ s H) {a : Addr} (ha : H a = none) (hc : CellR L (ρ.add a) (upd H a o) a c) : Q (.ref a) (upd H a o) :=
  g.pushed sr ha hc (VR.loc_iff.mpr (.inr ⟨a, by
    show (ρ.pl ++ [some a])[s.length]? = _
    rw [List.getElem?_append_right (by rw [sr.len]; exact Nat.le_refl _), sr.len, Nat.sub_self]; rfl, rfl⟩))
theorem r_dic {t : Bool} : PE X (.Dict [] [] pos) (rTE L W fun _ s => .ok (.loc s.length) (s ++ [if t then .dT [] else .dK []])) := by
  cases t with
  | true => exact pe_dnewT.weak fun σ H Q ⟨ρ, s, env, sr, er, g⟩ p hp => newPlace g sr hp ⟨[], upd_same, .nil⟩
  | false => exact pe_dnewK.weak fun σ H Q ⟨ρ, s, env, sr, er, g⟩ p hp => newPlace g sr hp ⟨[], upd_same, .nil⟩
/-! ### subscripts, slices -/
theorem r_idx (ok : XOk St T L fad n X sc fnb W) (hq : okE q = true) (ha : PE X p (rTE L W fa)) (hb : PE X q (rTE L W fb)) :
    PE X (.Subscript p q pos) (rTE L W fun env s => (fa env s).bind fun d s => (fb env s).bind fun e s => cIdx d e s) := by
  have hr : IxR X (rO' L cIdx) := fun value slice pins s σ H x y v u Q I rx ry ⟨W, q⟩ => ix_ok ok.K ok.hu value slice pins s σ H x y v u Q I rx ry q
  exact (pe_ix hr ha hb (plain_ok hq)).weak fun σ H Q h => two (fun W x y H Q h => ⟨W, h⟩) h
def rTO (L : Lk) (W : WX) (f : Env' → Sto → R (Option Int)) : TO := fun σ H Q => ∃ ρ s env, SR L ρ s H ∧ ER L.K ρ H env σ ∧ Good L (fun _ _ d (v : Option Int) => d = v) (wx L W σ) ρ H Q (f env s)
theorem r_o0 : PO X none (rTO L W fun _ s => .ok none s) := ⟨fun pins s σ H Q I ⟨ρ, st, env, sr, er, g⟩ => po_none.run pins s σ H Q I (g.here sr rfl)⟩
theorem r_o1 (ha : PE X p (rTE L W fa)) : PO X (some p) (rTO L W fun env s => (fa env s).bind fun d s => (match d with | .f (.int i) => .ok (some i) s | _ => .fail)) := by
  refine ⟨fun pins s σ H Q I ⟨ρ, st, env, sr, er, g⟩ => (po_some ha).run pins s σ H Q I ⟨ρ, st, env, sr, er, (Good.bind (rel := VR L.K) g).imp fun v H1 ⟨ρ1, s1, d, e1, sr1, h1, g1⟩ => ?_⟩⟩
  split at g1
  · obtain rfl := h1.int
    exact ⟨_, rfl, g1.here sr1 rfl⟩
  · exact g1.elim
theorem r_sl (ok : XOk St T L fad n X sc fnb W) {m : Bool} {l h : Option Expr} {fl fh : Env' → Sto → R (Option Int)} {p2 : Pos} (ha : PE X p (rTE L W fa)) (hl : PO X l (rTO L W fl)) (hh : PO X h (rTO L W fh)) :
    PE X (.Subscript p (.Slice l h none p2) pos) (rTE L W fun env s => (fa env s).bind fun d s => (fl env s).bind fun l s => (fh env s).bind fun h s => cSl m d l h s) := by
  have hr : SlR X (fun x lo hi H Q => ∃ W, rSl L W m x lo hi H Q) := fun pins s σ H x v vl vu lo hi sl Q I rx hs pl pu ⟨W, q⟩ => sl_ok ok.K m pins s σ H x v vl vu lo hi sl Q I rx hs pl pu q
  refine (pe_slice hr ha hl hh).weak fun σ H Q ⟨ρ, s, env, sr, er, g⟩ => ?_
  refine ⟨ρ, s, env, sr, er, (Good.bind (rel := VR L.K) g).imp fun v H1 ⟨ρ1, s1, d, e1, sr1, h1, g1⟩ => ?_⟩
  refine ⟨ρ1, s1, env, sr1, er.mono e1, (Good.bind (rel := fun _ _ d (v : Option Int) => d = v) g1).imp fun u H2 ⟨ρ2, s2, d2, e2, sr2, h2, g2⟩ => ?_⟩
  refine ⟨ρ2, s2, env, sr2, (er.mono e1).mono e2, (Good.bind (rel := fun _ _ d (v : Option Int) => d = v) g2).imp fun w H3 ⟨ρ3, s3, d3, e3, sr3, h3, g3⟩ => ?_⟩
  subst h2; subst h3
  exact ⟨_, ρ3, s3, d, sr3, h1.mono (e2.trans e3), g3⟩
theorem r_rev (ok : XOk St T L fad n X sc fnb W) {m : Bool} {k : Nat} {p1 p2 p3 : Pos} (ha : PE X p (rTE L W fa)) :
    PE X (.Subscript p (.Slice none none (some (.UnaryOp .USub (.Constant (.int 1) k p1) p2)) p3) pos) (rTE L W fun env s => (fa env s).bind fun d s => cRev m d s) := by
  refine ⟨fun pins s σ H Q I ⟨ρ, st, env, sr, er, g⟩ => (pe_rev (W := wx L W σ) (m := m) ok.K ha).run pins s σ H Q I ⟨ρ, st, env, sr, er, (Good.bind (rel := VR L.K) g).imp fun v H1 ⟨ρ1, s1, d, e1, sr1, h1, g1⟩ => ⟨ρ1, s1, d, sr1, h1, g1⟩⟩⟩
end rules
end JM

set_option autoImplicit false
/-! J10: calls, fields, built-ins, methods of built-in types, isinstance. -/
namespace JM
open PySem PySem.Spec PyProof.Rows L2

section rules
variable {St : Stat} {T : Tb} {L : Lk} {fad : Nat → Addr} {n : Nat} {X : Cx} {sc : Scope} {fnb : Str → Bool} {W : WX}
variable {fa fb fc : Env' → Sto → R D} {fs : Env' → Sto → R (List D)} {p q r : Expr} {es : List Expr} {pos : Pos}

theorem any_back : ∀ {es : List Expr} {env : Env} {pos : Pos}, es.all okE = true → (backTo pos (starEach es env)).any (·.1) = false
  | [], _, _, _ => rfl
  | e :: es, env, pos, h => by
    simp only [List.all_cons, Bool.and_eq_true] at h
    rw [star_ok h.1]
    show (false || (backTo pos (starEach es env)).any (·.1)) = false
    rw [any_back h.2]; rfl
theorem few_back : ∀ {es : List Expr} {env : Env} {pos : Pos}, es.all okE = true → (backTo pos (starEach es env)).all (fun x => !x.1) = true
  | [], _, _, _ => rfl
  | e :: es, env, pos, h => by
    simp only [List.all_cons, Bool.and_eq_true] at h
    rw [star_ok h.1]
    show (true && (backTo pos (starEach es env)).all (fun x => !x.1)) = true
    rw [few_back h.2]; rfl
/-- f(e, ..), what is raised at the caller's slots -/
theorem pe_callAny {k : Nat} {f : Addr} {fd : FuncData} {ps : List Str} {sp : Sp} {x : Str} {p0 : Pos} {t : TA} {e : Expr} (F : FnOk X.prog X.w X.K X.mg X.base (L2.CX X.prog X.w) k f fd ps sp) (hr : Room k X.A) (hg : Gl X x) (hm : X.mg x = some (.ref f))
    (hk : PySem.W.keepIn X.K (.ref f) = true) (hb : Binds X.K fd ps []) (tk : Takes X W) (ha : PA X (e :: es) t) (ho : (e :: es).all okE = true) (hdb : (x == ("__debug__" : Str)) = false) :
    PE X (.Call (.Name x p0) (e :: es) [] pos) (fun σ H Q => t σ H fun vs H1 => sp vs H1 Q (WE W σ)) := by
  simp only [List.all_cons, Bool.and_eq_true] at ho
  refine ⟨fun pins s σ H Q I h => ?_⟩
  refine wpAny_Call_Name_kw (ld_glob I hg hm ?_ hdb)
  refine PySem.W.callWith_K (h₀ := X.base) I.ok.mod.kin hk (thn (ha.run pos pins s σ H _ I h) fun us s1 ⟨vs, H1, I1, r, q⟩ => ⟨I1.kIn, ?_⟩) (star_ok ho.1) (any_back ho.2)
  exact run_fnS F hr hb (passAt tk σ) I1 r q
theorem pe_callAny0 {k : Nat} {f : Addr} {fd : FuncData} {ps : List Str} {sp : Sp} {x : Str} {p0 : Pos} (F : FnOk X.prog X.w X.K X.mg X.base (L2.CX X.prog X.w) k f fd ps sp) (hr : Room k X.A) (hg : Gl X x) (hm : X.mg x = some (.ref f))
    (hk : PySem.W.keepIn X.K (.ref f) = true) (hb : Binds X.K fd ps []) (tk : Takes X W) (hdb : (x == ("__debug__" : Str)) = false) :
    PE X (.Call (.Name x p0) [] [] pos) (fun σ H Q => sp [] H Q (WE W σ)) := by
  refine ⟨fun pins s σ H Q I h => ?_⟩
  refine wpAny_Call_Name_kw (ld_glob I hg hm ?_ hdb)
  exact PySem.W.callWith_K0 I.kIn hk (run_fnS (us := []) F hr hb (passAt tk σ) I .nil h)
theorem meth_form {o : Expr} {m : Str} {apos : Pos} {env : Env} (ho : okE o = true) (hc : isCall o = false) (hl : (apos.endLine == pos.line) = true) (he : es.all okE = true) (hn : es.length < 29) :
    eval (.Call (.Attribute o m apos) es [] pos) env = (do
      let ov ← eval o env
      standAt apos.atName
      let (f, first) ← holding [ov] (getMethod ov m (plainOf o env))
      callWith pos f first (backTo pos (starEach es env)) (backToKw pos (keywordEach [] env))) := by
  have e1 : eval (.Call (.Attribute o m apos) es [] pos) env = (do
      let ov ← attributeBase o m env (eval o env)
      standAt apos.atName
      methodCall o m apos pos env ov (es.length + ([] : List Keyword).length) (backTo pos (starEach es env)) (backToKw pos (keywordEach [] env))) := by
    rw [eval]
  rw [e1, base_ok ho hc]
  have hf : methodCallForm (es.length + ([] : List Keyword).length) (backTo pos (starEach es env)) (backToKw pos (keywordEach [] env)) = true := by
    unfold methodCallForm
    rw [few_back he]
    show (true && true && decide (es.length + 0 + (if ([] : List (Option Str × Sem Value)).isEmpty then 0 else 1) < 30)) = true
    simp
    omega
  congr 1
  funext ov
  congr 1
  funext _
  rw [mcall_line hf hl]
/-- o.m(e, ..) -/
theorem pe_methAny {k : Nat} {C f : Addr} {fd : FuncData} {ps : List Str} {sp : Sp} {m : Str} {apos : Pos} {ta : TE} {t : TA} {o e : Expr} (hp : PE X o ta) (c : Cls X.K C) (hm : Meth X.K C m f) (F : FnOk X.prog X.w X.K X.mg X.base (L2.CX X.prog X.w) k f fd ps sp) (hr : Room k X.A)
    (hb : Binds X.K fd ps []) (tk : Takes X W) (ha : PA X (e :: es) t) (ho : okE o = true) (hc : isCall o = false) (hl : (apos.endLine == pos.line) = true) (he : (e :: es).all okE = true) (hn : (e :: es).length < 29) :
    PE X (.Call (.Attribute o m apos) (e :: es) [] pos) (fun σ H Q => ta σ H fun x H1 => ∃ a dx fs, x = .ref a ∧ H1 a = some (.ins C dx fs) ∧ fs.lookup m = none ∧ t σ H1 fun vs H2 => sp (x :: vs) H2 Q (WE W σ)) := by
  have he' := he
  simp only [List.all_cons, Bool.and_eq_true] at he'
  refine ⟨fun pins s σ H Q I h => ?_⟩
  refine PySem.W.methodCall_KW (pl := plainOf o X.env) (thn (hp.run pins s σ H _ I h) fun u s1 ⟨x, H1, I1, rx, a, dx, fs, ex, ea, l, q⟩ => ?_) (meth_form ho hc hl he hn)
  subst ex
  obtain rfl : u = Value.ref a := rx
  refine getmeth_ok I1 ea c hm l ?_
  refine PySem.W.callWith_K (first := [.ref a]) (h₀ := X.base) I.ok.mod.kin hm.kp (thn (ha.run pos pins s1 σ H1 _ I1 q) fun us s2 ⟨vs, H2, I2, r, q2⟩ => ⟨I2.kIn, ?_⟩) (star_ok he'.1) (any_back he'.2)
  exact run_fnS (us := .ref a :: us) (vs := .ref a :: vs) F hr hb (passAt tk σ) I2 (.cons rfl r) q2
theorem pe_methAny0 {k : Nat} {C f : Addr} {fd : FuncData} {ps : List Str} {sp : Sp} {m : Str} {apos : Pos} {ta : TE} {o : Expr} (hp : PE X o ta) (c : Cls X.K C) (hm : Meth X.K C m f) (F : FnOk X.prog X.w X.K X.mg X.base (L2.CX X.prog X.w) k f fd ps sp) (hr : Room k X.A)
    (hb : Binds X.K fd ps []) (tk : Takes X W) (ho : okE o = true) (hc : isCall o = false) (hl : (apos.endLine == pos.line) = true) :
    PE X (.Call (.Attribute o m apos) [] [] pos) (fun σ H Q => ta σ H fun x H1 => ∃ a dx fs, x = .ref a ∧ H1 a = some (.ins C dx fs) ∧ fs.lookup m = none ∧ sp [x] H1 Q (WE W σ)) := by
  refine ⟨fun pins s σ H Q I h => ?_⟩
  refine PySem.W.methodCall_KW (pl := plainOf o X.env) (thn (hp.run pins s σ H _ I h) fun u s1 ⟨x, H1, I1, rx, a, dx, fs, ex, ea, l, q⟩ => ?_) (meth_form ho hc hl rfl (by decide))
  subst ex
  obtain rfl : u = Value.ref a := rx
  refine getmeth_ok I1 ea c hm l ?_
  exact PySem.W.callWith_K0 (first := [.ref a]) I1.kIn hm.kp (run_fnS (us := [.ref a]) (vs := [.ref a]) F hr hb (passAt tk σ) I1 (.cons rfl .nil) q)

/-! ### the calls' meaning -/
/-- a def's promise from an outcome -/
theorem sp_of {ρ : Ro} {s : Sto} {H : Hp} {ds : List D} {vs : List V} {Q : VK} {σ : L2.St} {f : Nat} (sr : SR L ρ s H) (p : VL L.K ρ H ds vs) (g : Good L (VR L.K) (wx L W σ) ρ H Q (callF T n f ds s)) : spF T L n f vs H Q (WE W σ) := ⟨ρ, s, ds, sr, p, g⟩
/-- .. of a call that keeps the caller's store -/
theorem sp_pure {ρ : Ro} {s : Sto} {H : Hp} {fs : List F} {ds : List D} {vs : List V} {Q : VK} {σ : L2.St} {f : Nat} (sr : SR L ρ s H) (p : VL L.K ρ H ds vs) (e : allF ds = some fs) (g : Good L (VR L.K) (wx L W σ) ρ H Q (pureR s (callF T n f ds []))) : spF T L n f vs H (fzQ Q) (WE W σ) := by
  refine ⟨ρ.hide, [], ds, sr.hide, ?_, ?_⟩
  · rw [allF_eq e] at p ⊢
    exact ((VL.toFL p).hide fun a h => Ro.hide_no.mpr h).toVL
  · cases hr : callF T n f ds [] with
    | exc x t =>
      rw [hr] at g
      exact fun ρ' H' ex sr' => by
        obtain ⟨e1, sr1, _⟩ := sr.back ex
        exact g ρ H' e1 sr1
    | fail => rw [hr] at g; exact g.elim
    | ok d t =>
      rw [hr] at g
      intro ρ' H' v ex sr' hv
      obtain ⟨e1, sr1, no⟩ := sr.back ex
      cases d with
      | f y => exact .inl (g ρ H' v e1 sr1 (VR.f_iff.mpr ((VR.f_iff.mp hv).hide no)))
      | tup l => exact g.elim
      | loc k =>
        unfold pureR at g
        dsimp only at g
        cases ht : t[k]? with
        | none => rw [ht] at g; exact g.elim
        | some c =>
          rw [ht] at g
          cases c with
          | lst l =>
            try dsimp only at g
            split at g
            · rename_i hl
              cases ef : allF l with
              | none => rw [ef] at g; exact g.elim
              | some ys =>
                rw [ef] at g
                obtain ⟨a, rfl, hk, xs, h1, pl⟩ := sr'.at hv ht (by intro z; cases z)
                refine .inl (g ρ H' _ e1 sr1 (VR.f_iff.mpr (VF.lst_iff.mpr ⟨a, xs, rfl, ⟨h1, ?_⟩, ?_, ?_⟩)))
                · have hm := List.mem_of_getElem? hk
                  have h2 : a ∉ ρ.hide.hd := fun z => sr'.hpl a hm (ex.hk a z)
                  exact Ro.hide_no.mp ⟨by simp [Ro.hide], h2⟩
                · rw [allF_eq ef] at hl; simpa using hl
                · rw [allF_eq ef] at pl
                  exact (VL.toFL pl).hide no
            · exact g.elim
          | dK l =>
            try dsimp only at g
            split at g
            · rename_i hl
              cases ef : allFK l with
              | none => rw [ef] at g; exact g.elim
              | some ys =>
                rw [ef] at g
                obtain ⟨a, rfl, hk, xs, h1, pl⟩ := sr'.at hv ht (by intro z; cases z)
                obtain ⟨k1, k2⟩ := allFK_ok ef pl
                have hm := List.mem_of_getElem? hk
                refine .inr ⟨a, .dK xs, h1, trivial, fun od => ?_⟩
                obtain ⟨e2, sr2, no2⟩ := sr.back (ex.trans (Ex.write (o := .frz od (.dK xs)) hm))
                refine g ρ _ _ e2 sr2 (VR.f_iff.mpr (VF.dct_iff.mpr ⟨a, xs, rfl, ⟨⟨od, upd_same⟩, ?_⟩, by rw [k2]; exact hl, Paired.mapP k1 fun _ _ q => ⟨q.1, (VF.mono (Ex.write hm) q.2).hide no2⟩⟩))
                have h2 : a ∉ ρ.hide.hd := fun z => sr'.hpl a hm (ex.hk a z)
                exact Ro.hide_no.mp ⟨by simp [Ro.hide], h2⟩
            · exact g.elim
          | _ => exact g.elim
theorem atG_ok {f : Nat} {x : Str} (h : atG St f x = true) : St.at_[f]? = some (.glob x) := by
  unfold atG at h
  split at h
  · rename_i y hy; rw [hy, of_decide_eq_true h]
  · cases h
theorem atM_ok {f c : Nat} {x : Str} (h : atM St f c x = true) : St.at_[f]? = some (.meth c x) := by
  unfold atM at h
  split at h
  · rename_i d y hy
    simp only [Bool.and_eq_true, decide_eq_true_eq] at h
    rw [hy, h.1, h.2]
  · cases h
theorem r_call (ok : XOk St T L fad n X sc fnb W) {f : Nat} {y : Str} {p0 : Pos} {e : Expr} (hg : glB sc y = true) (hf : atG St f y = true) (ho : (e :: es).all okE = true) (ha : PA X (e :: es) (rTA L W fs)) :
    PE X (.Call (.Name y p0) (e :: es) [] pos) (rTE L W fun env s => (fs env s).bind fun ds s => (match allF ds with | some _ => pureR s (callF T n f ds []) | none => .fail)) := by
  have hat := atG_ok hf
  obtain ⟨⟨fd, ps, F, hb⟩, kp⟩ := ok.fns f _ hat
  rw [← ok.K] at F kp hb
  obtain ⟨g1, g2, _⟩ := glB_ok ok.sc hg
  refine (pe_fz (pe_callAny F ok.room g1 (ok.lk.glob f y hat) kp hb ok.tk ha ho g2)).weak fun σ H Q ⟨ρ, s, env, sr, er, g⟩ => ⟨ρ, s, env, sr, er, (Good.bind (rel := VL L.K) g).imp fun u H2 ⟨ρ2, s2, d2, e2, sr2, h2, g2⟩ => ?_⟩
  split at g2
  · rename_i fs' hfs
    exact sp_pure sr2 h2 hfs g2
  · exact g2.elim
theorem r_call0 (ok : XOk St T L fad n X sc fnb W) {f : Nat} {y : Str} {p0 : Pos} (hg : glB sc y = true) (hf : atG St f y = true) :
    PE X (.Call (.Name y p0) [] [] pos) (rTE L W fun _ s => pureR s (callF T n f [] [])) := by
  have hat := atG_ok hf
  obtain ⟨⟨fd, ps, F, hb⟩, kp⟩ := ok.fns f _ hat
  rw [← ok.K] at F kp hb
  obtain ⟨g1, g2, _⟩ := glB_ok ok.sc hg
  exact (pe_fz (pe_callAny0 F ok.room g1 (ok.lk.glob f y hat) kp hb ok.tk g2)).weak fun σ H Q ⟨ρ, s, env, sr, er, g⟩ => sp_pure sr .nil rfl g
theorem r_calli (ok : XOk St T L fad n X sc fnb W) {f : Nat} {y : Str} {p0 : Pos} {e : Expr} (hg : glB sc y = true) (hf : atG St f y = true) (ho : (e :: es).all okE = true) (ha : PA X (e :: es) (rTA L W fs)) :
    PE X (.Call (.Name y p0) (e :: es) [] pos) (rTE L W fun env s => (fs env s).bind fun ds s => callF T n f ds s) := by
  have hat := atG_ok hf
  obtain ⟨⟨fd, ps, F, hb⟩, kp⟩ := ok.fns f _ hat
  rw [← ok.K] at F kp hb
  obtain ⟨g1, g2, _⟩ := glB_ok ok.sc hg
  exact (pe_callAny F ok.room g1 (ok.lk.glob f y hat) kp hb ok.tk ha ho g2).weak fun σ H Q ⟨ρ, s, env, sr, er, g⟩ => ⟨ρ, s, env, sr, er, (Good.bind (rel := VL L.K) g).imp fun u H2 ⟨ρ2, s2, d2, e2, sr2, h2, g2⟩ => sp_of sr2 h2 g2⟩
theorem r_calli0 (ok : XOk St T L fad n X sc fnb W) {f : Nat} {y : Str} {p0 : Pos} (hg : glB sc y = true) (hf : atG St f y = true) :
    PE X (.Call (.Name y p0) [] [] pos) (rTE L W fun _ s => callF T n f [] s) := by
  have hat := atG_ok hf
  obtain ⟨⟨fd, ps, F, hb⟩, kp⟩ := ok.fns f _ hat
  rw [← ok.K] at F kp hb
  obtain ⟨g1, g2, _⟩ := glB_ok ok.sc hg
  exact (pe_callAny0 F ok.room g1 (ok.lk.glob f y hat) kp hb ok.tk g2).weak fun σ H Q ⟨ρ, s, env, sr, er, g⟩ => sp_of sr .nil g
/-! ### fields, methods -/
theorem lookup_zip {fs : List Str} (nd : fs.Nodup) : ∀ {i : Nat} {y : Str} {xs : List V}, fs[i]? = some y → (fs.zip xs).lookup y = xs[i]? := by
  induction fs with
  | nil => intro i y xs h; simp at h
  | cons f fs ih =>
    intro i y xs h
    have nd' := List.nodup_cons.mp nd
    cases xs with
    | nil => simp
    | cons x xs =>
      rw [List.zip_cons_cons, List.lookup_cons]
      cases i with
      | zero => simp at h; subst h; simp
      | succ i =>
        simp only [List.getElem?_cons_succ] at h ⊢
        have : (y == f) = false := beq_eq_false_iff_ne.mpr fun e => nd'.1 (e ▸ List.mem_of_getElem? h)
        rw [this]
        exact ih nd'.2 h
theorem lookup_zip_none {fs : List Str} {y : Str} (h : y ∉ fs) : ∀ {xs : List V}, (fs.zip xs).lookup y = none := by
  induction fs with
  | nil => intro xs; rfl
  | cons f fs ih =>
    intro xs
    cases xs with
    | nil => rfl
    | cons x xs =>
      rw [List.zip_cons_cons, List.lookup_cons]
      have : (y == f) = false := beq_eq_false_iff_ne.mpr fun e => h (e ▸ List.mem_cons_self)
      rw [this]
      exact ih fun z => h (List.mem_cons_of_mem _ z)
theorem r_fld (ok : XOk St T L fad n X sc fnb W) {c i : Nat} {y : Str} {cd : ClsS} (hc : St.cls[c]? = some cd) (hy : cd.fields[i]? = some y) (ho : okE p = true) (hk : isCall p = false) (ha : PE X p (rTE L W fa)) :
    PE X (.Attribute p y pos) (rTE L W fun env s => (fa env s).bind fun d s => (match d with
    | .loc n => (match s[n]? with | some (.ins c' l) => if c' = c then (match l[i]? with | some v => .ok v s | none => .fail) else .fail | _ => .fail)
    | _ => .fail)) := by
  obtain ⟨_, k1, k2, k3, k4, _⟩ := ok.lk.cls c cd hc
  refine (pe_fld ha (base_ok ho hk)).weak fun σ H Q ⟨ρ, s, env, sr, er, g⟩ => ⟨ρ, s, env, sr, er, (Good.bind (rel := VR L.K) g).imp fun u H2 ⟨ρ2, s2, d2, e2, sr2, h2, g2⟩ => ?_⟩
  split at g2
  · split at g2
    · rename_i hn
      split at g2
      · rename_i e
        subst e
        split at g2
        · rename_i v hv
          obtain ⟨a, rfl, _, dx, xs, h1, pl, _⟩ := sr2.at h2 hn (by intro z; cases z)
          obtain ⟨w, hw, hvw⟩ := pget pl hv
          refine ⟨a, _, dx, _, w, rfl, h1, by rw [ok.K]; exact k1, by rw [ok.K]; exact k2 y (List.mem_of_getElem? hy), ?_, g2.here sr2 hvw⟩
          rw [k3, lookup_zip k4 hy]
          exact hw
        · exact g2.elim
      · exact g2.elim
    · exact g2.elim
  · exact g2.elim
theorem r_meth (ok : XOk St T L fad n X sc fnb W) {c f : Nat} {y : Str} {cd : ClsS} {e : Expr} {apos : Pos} (hc : St.cls[c]? = some cd) (hy : cd.fields.contains y = false) (hf : atM St f c y = true) (ho : okE p = true) (hk : isCall p = false) (hl : (apos.endLine == pos.line) = true)
    (he : (e :: es).all okE = true) (hn : (e :: es).length < 29) (ha : PE X p (rTE L W fa)) (hs : PA X (e :: es) (rTA L W fs)) :
    PE X (.Call (.Attribute p y apos) (e :: es) [] pos) (rTE L W fun env s => (fa env s).bind fun d s => (match d with
    | .loc k => (match s[k]? with | some (.ins c' _) => if c' = c then (fs env s).bind fun ds s => callF T n f (.loc k :: ds) s else .fail | _ => .fail)
    | _ => .fail)) := by
  obtain ⟨_, k1, k2, k3, k4, _⟩ := ok.lk.cls c cd hc
  have hat := atM_ok hf
  obtain ⟨⟨fd, ps, F, hb⟩, kp⟩ := ok.fns f _ hat
  have hm := ok.lk.meth f c y hat
  rw [← ok.K] at F kp hb hm k1
  refine (pe_methAny ha k1 hm F ok.room hb ok.tk hs ho hk hl he hn).weak fun σ H Q ⟨ρ, s, env, sr, er, g⟩ => ⟨ρ, s, env, sr, er, (Good.bind (rel := VR L.K) g).imp fun u H2 ⟨ρ2, s2, d2, e2, sr2, h2, g2⟩ => ?_⟩
  split at g2
  · split at g2
    · rename_i hn
      split at g2
      · rename_i e
        subst e
        obtain ⟨a, rfl, _, dx, xs, h1, pl, _⟩ := sr2.at h2 hn (by intro z; cases z)
        refine ⟨a, dx, _, rfl, h1, ?_, ρ2, s2, env, sr2, er.mono e2, (Good.bind (rel := VL L.K) g2).imp fun us H3 ⟨ρ3, s3, d3, e3, sr3, h3, g3⟩ => sp_of sr3 (.cons (h2.mono e3) h3) g3⟩
        rw [k3]
        exact lookup_zip_none fun z => by rw [List.contains_iff_mem.mpr z] at hy; cases hy
      · exact g2.elim
    · exact g2.elim
  · exact g2.elim
theorem r_meth0 (ok : XOk St T L fad n X sc fnb W) {c f : Nat} {y : Str} {cd : ClsS} {apos : Pos} (hc : St.cls[c]? = some cd) (hy : cd.fields.contains y = false) (hf : atM St f c y = true) (ho : okE p = true) (hk : isCall p = false) (hl : (apos.endLine == pos.line) = true)
    (ha : PE X p (rTE L W fa)) :
    PE X (.Call (.Attribute p y apos) [] [] pos) (rTE L W fun env s => (fa env s).bind fun d s => (match d with
    | .loc k => (match s[k]? with | some (.ins c' _) => if c' = c then callF T n f [.loc k] s else .fail | _ => .fail)
    | _ => .fail)) := by
  obtain ⟨_, k1, k2, k3, k4, _⟩ := ok.lk.cls c cd hc
  have hat := atM_ok hf
  obtain ⟨⟨fd, ps, F, hb⟩, kp⟩ := ok.fns f _ hat
  have hm := ok.lk.meth f c y hat
  rw [← ok.K] at F kp hb hm k1
  refine (pe_methAny0 ha k1 hm F ok.room hb ok.tk ho hk hl).weak fun σ H Q ⟨ρ, s, env, sr, er, g⟩ => ⟨ρ, s, env, sr, er, (Good.bind (rel := VR L.K) g).imp fun u H2 ⟨ρ2, s2, d2, e2, sr2, h2, g2⟩ => ?_⟩
  split at g2
  · split at g2
    · rename_i hn
      split at g2
      · rename_i e
        subst e
        obtain ⟨a, rfl, _, dx, xs, h1, pl, _⟩ := sr2.at h2 hn (by intro z; cases z)
        refine ⟨a, dx, _, rfl, h1, ?_, sp_of sr2 (.cons h2 .nil) g2⟩
        rw [k3]
        exact lookup_zip_none fun z => by rw [List.contains_iff_mem.mpr z] at hy; cases hy
      · exact g2.elim
    · exact g2.elim
  · exact g2.elim
/-! ### new instances -/
theorem pe_makeAny {k : Nat} {C f : Addr} {fd : FuncData} {ps : List Str} {sp : Sp} {x : Str} {p0 : Pos} {t : TA} {e : Expr} (M : Mk X.K C f) (F : FnOk X.prog X.w X.K X.mg X.base (L2.CX X.prog X.w) k f fd ps sp) (hr : Room (k + 1) X.A) (hg : Gl X x) (hm : X.mg x = some (.ref C))
    (hb : Binds X.K fd ps []) (tk : Takes X W) (ha : PA X (e :: es) t) (ho : (e :: es).all okE = true) (hdb : (x == ("__debug__" : Str)) = false) :
    PE X (.Call (.Name x p0) (e :: es) [] pos) (fun σ H Q => t σ H fun vs H1 => ∀ x dx, H1 x = none → H1 dx = none → dx ≠ x → sp (.ref x :: vs) (upd (upd H1 dx (.own x)) x (.ins C dx [])) (fun v H2 => v = .non ∧ Q (.ref x) H2) (WE W σ)) := by
  have ho' := ho
  simp only [List.all_cons, Bool.and_eq_true] at ho'
  refine ⟨fun pins s σ H Q I h => ?_⟩
  refine wpAny_Call_Name_kw (ld_glob I hg hm ?_ hdb)
  refine PySem.W.callWith_K (h₀ := X.base) I.ok.mod.kin M.kp (thn (ha.run pos pins s σ H _ I h) fun us s1 ⟨vs, H1, I1, r, q⟩ => ⟨I1.kIn, ?_⟩) (star_ok ho'.1) (any_back ho'.2)
  have hq := q (s1.heap.objs.size + 1) s1.heap.objs.size (I1.hok.fresh (Nat.le_succ _)) (I1.hok.fresh (Nat.le_refl _)) (Nat.ne_of_lt (Nat.lt_succ_self _))
  have I2 := Inv.made (C := C) I1
  have r2 : Vals (V.ref (s1.heap.objs.size + 1) :: vs) (Value.ref (s1.heap.objs.size + 1) :: us) := .cons rfl r
  have hl : (Value.ref (s1.heap.objs.size + 1) :: us).length = ps.length := by rw [← r2.length]; exact F.len _ _ _ _ hq
  have hbb := hb ({ s1 with heap := (s1.heap.push PySem.W.emptyDict).push (PySem.W.instObj C s1.heap.objs.size) }) (Value.ref (s1.heap.objs.size + 1) :: us) I2.kIn (by rw [List.append_nil]; exact hl)
  rw [List.append_nil] at hbb
  refine wpAny_call (make_map (f := f) I1.kIn M.makes M.init (beq_iff_eq.mp M.fn) (codeAny_mono (F.run _ X.stack _ _ ⟨Value.ref (s1.heap.objs.size + 1) :: us, []⟩ _ _ _ (WE W σ) (hr.make C us [])
    (I2.env0.make C us []) hbb r2 hq) fun r s' hq' => ?_))
  cases r with
  | error e => exact passAt tk σ pins _ _ e s' I2 hq'
  | ok fl =>
    cases fl with
    | ret u =>
      obtain ⟨v, H', I3, rv, ev, q3⟩ := I2.after hq'
      subst ev
      exact ⟨rv, ⟨V.ref (s1.heap.objs.size + 1), H', I3, rfl, q3⟩⟩
    | next => exact False.elim hq'
    | brk => exact False.elim hq'
    | cont => exact False.elim hq'
theorem pe_makeAny0 {k : Nat} {C f : Addr} {fd : FuncData} {ps : List Str} {sp : Sp} {x : Str} {p0 : Pos} (M : Mk X.K C f) (F : FnOk X.prog X.w X.K X.mg X.base (L2.CX X.prog X.w) k f fd ps sp) (hr : Room (k + 1) X.A) (hg : Gl X x) (hm : X.mg x = some (.ref C))
    (hb : Binds X.K fd ps []) (tk : Takes X W) (hdb : (x == ("__debug__" : Str)) = false) :
    PE X (.Call (.Name x p0) [] [] pos) (fun σ H1 Q => ∀ x dx, H1 x = none → H1 dx = none → dx ≠ x → sp [.ref x] (upd (upd H1 dx (.own x)) x (.ins C dx [])) (fun v H2 => v = .non ∧ Q (.ref x) H2) (WE W σ)) := by
  refine ⟨fun pins s1 σ H Q I1 q => ?_⟩
  refine wpAny_Call_Name_kw (ld_glob I1 hg hm ?_ hdb)
  refine PySem.W.callWith_K0 I1.kIn M.kp ?_
  have hq := q (s1.heap.objs.size + 1) s1.heap.objs.size (I1.hok.fresh (Nat.le_succ _)) (I1.hok.fresh (Nat.le_refl _)) (Nat.ne_of_lt (Nat.lt_succ_self _))
  have I2 := Inv.made (C := C) I1
  have r2 : Vals [V.ref (s1.heap.objs.size + 1)] [Value.ref (s1.heap.objs.size + 1)] := .cons rfl .nil
  have hl : [Value.ref (s1.heap.objs.size + 1)].length = ps.length := by rw [← r2.length]; exact F.len _ _ _ _ hq
  have hbb := hb ({ s1 with heap := (s1.heap.push PySem.W.emptyDict).push (PySem.W.instObj C s1.heap.objs.size) }) [Value.ref (s1.heap.objs.size + 1)] I2.kIn (by rw [List.append_nil]; exact hl)
  rw [List.append_nil] at hbb
  refine wpAny_call (make_map (f := f) I1.kIn M.makes M.init (beq_iff_eq.mp M.fn) (codeAny_mono (F.run _ X.stack _ _ ⟨[Value.ref (s1.heap.objs.size + 1)], []⟩ _ _ _ (WE W σ) (hr.make C [] [])
    (I2.env0.make C [] []) hbb r2 hq) fun r s' hq' => ?_))
  cases r with
  | error e => exact passAt tk σ pins _ _ e s' I2 hq'
  | ok fl =>
    cases fl with
    | ret u =>
      obtain ⟨v, H', I3, rv, ev, q3⟩ := I2.after hq'
      subst ev
      exact ⟨rv, ⟨V.ref (s1.heap.objs.size + 1), H', I3, rfl, q3⟩⟩
    | next => exact False.elim hq'
    | brk => exact False.elim hq'
    | cont => exact False.elim hq'
/-- what a new instance's making means -/
theorem sp_make {ρ : Ro} {s : Sto} {H : Hp} {ds : List D} {vs : List V} {Q : VK} {σ : L2.St} {m f c : Nat} (sr : SR L ρ s H) (p : VL L.K ρ H ds vs)
    (g : Good L (VR L.K) (wx L W σ) ρ H Q ((callF T m f (.loc s.length :: ds) (s ++ [.ins c []])).bind fun d t => (match d with | .f .non => .ok (.loc s.length) t | _ => .fail))) :
    ∀ x dx, H x = none → H dx = none → dx ≠ x → spF T L m f (.ref x :: vs) (upd (upd H dx (.own x)) x (.ins (L.cad c) dx [])) (fun v H2 => v = .non ∧ Q (.ref x) H2) (WE W σ) := by
  intro x dx hx hdx hne
  have sr1 : SR L ρ s (upd H dx (.own x)) := sr.fresh hdx
  have ex1 : Ex ρ H ρ (upd H dx (.own x)) := Ex.fresh sr hdx
  have hx1 : (upd H dx (.own x)) x = none := by rw [upd_ne (Ne.symm hne)]; exact hx
  have ex2 := Ex.push (o := .ins (L.cad c) dx []) sr1 hx1
  have hloc : VR L.K (ρ.add x) (upd (upd H dx (.own x)) x (.ins (L.cad c) dx [])) (.loc s.length) (.ref x) := VR.loc_iff.mpr (.inr ⟨x, by
    show (ρ.pl ++ [some x])[s.length]? = _
    rw [List.getElem?_append_right (by rw [sr.len]; exact Nat.le_refl _), sr.len, Nat.sub_self]; rfl, rfl⟩)
  refine ⟨ρ.add x, s ++ [.ins c []], .loc s.length :: ds, sr1.push (c := .ins c []) hx1 ⟨dx, [], by rw [upd_same]; simp, .nil, Nat.zero_le _⟩, .cons hloc (p.mono (ex1.trans ex2)), ?_⟩
  refine ((Good.bind (rel := VR L.K) (rel' := VR L.K) (g.later (ex1.trans ex2)))).imp fun v H2 ⟨ρ2, s2, d2, e2, sr2, h2, g2⟩ => ?_
  split at g2
  · exact ⟨h2.non, g2.here sr2 (hloc.mono e2)⟩
  · exact g2.elim
theorem mk_ok (ok : XOk St T L fad n X sc fnb W) {c f : Nat} {cd : ClsS} (hc : St.cls[c]? = some cd) (hf : St.at_[f]? = some (.meth c "__init__")) : Mk X.K (L.cad c) (fad f) := by
  obtain ⟨_, _, _, _, _, _, k6, k7⟩ := ok.lk.cls c cd hc
  have hm := ok.lk.meth f c _ hf
  rw [← ok.K] at k6 k7 hm
  exact ⟨k6, hm.at_, hm.fn, k7⟩
theorem r_make (ok : XOk St T L fad n X sc fnb W) {c f : Nat} {y : Str} {cd : ClsS} {p0 : Pos} {e : Expr} (hc : St.cls[c]? = some cd) (hy : cd.name = y) (hg : glB sc y = true) (hf : atM St f c "__init__" = true) (ho : (e :: es).all okE = true) (ha : PA X (e :: es) (rTA L W fs)) :
    PE X (.Call (.Name y p0) (e :: es) [] pos) (rTE L W fun env s => (fs env s).bind fun ds s => (callM T n f (.loc s.length :: ds) (s ++ [.ins c []])).bind fun d t => (match d with | .f .non => .ok (.loc s.length) t | _ => .fail)) := by
  obtain ⟨k0, k1, k2, k3, k4, _⟩ := ok.lk.cls c cd hc
  rw [hy] at k0
  have hat := atM_ok hf
  obtain ⟨g1, g2, _⟩ := glB_ok ok.sc hg
  cases n with
  | zero =>
    refine ⟨fun pins s σ H Q I ⟨ρ, st, env, sr, er, g⟩ => ?_⟩
    refine wpAny_Call_Name_kw (ld_glob I g1 k0 ?_ g2)
    have ho' := ho
    simp only [List.all_cons, Bool.and_eq_true] at ho'
    refine PySem.W.callWith_K (h₀ := X.base) I.ok.mod.kin (mk_ok ok hc hat).kp (thn (ha.run pos pins s σ H (fun _ _ => False) I ⟨ρ, st, env, sr, er, (Good.bind (rel := VL L.K) g).imp fun u H2 ⟨ρ2, s2, d2, e2, sr2, h2, g2⟩ => g2.elim⟩) fun us s1 ⟨vs, H1, I1, r, q⟩ => q.elim) (star_ok ho'.1) (any_back ho'.2)
  | succ m =>
    obtain ⟨⟨fd, ps, F, hb⟩, kp⟩ := ok.mks m rfl f _ hat
    rw [← ok.K] at F kp hb
    exact (pe_makeAny (mk_ok ok hc hat) F ok.room g1 k0 hb ok.tk ha ho g2).weak fun σ H Q ⟨ρ, s, env, sr, er, g⟩ => ⟨ρ, s, env, sr, er, (Good.bind (rel := VL L.K) g).imp fun u H2 ⟨ρ2, s2, d2, e2, sr2, h2, g2⟩ => sp_make sr2 h2 g2⟩
theorem r_make0 (ok : XOk St T L fad n X sc fnb W) {c f : Nat} {y : Str} {cd : ClsS} {p0 : Pos} (hc : St.cls[c]? = some cd) (hy : cd.name = y) (hg : glB sc y = true) (hf : atM St f c "__init__" = true) :
    PE X (.Call (.Name y p0) [] [] pos) (rTE L W fun _ s => (callM T n f [.loc s.length] (s ++ [.ins c []])).bind fun d t => (match d with | .f .non => .ok (.loc s.length) t | _ => .fail)) := by
  obtain ⟨k0, k1, k2, k3, k4, _⟩ := ok.lk.cls c cd hc
  rw [hy] at k0
  have hat := atM_ok hf
  obtain ⟨g1, g2, _⟩ := glB_ok ok.sc hg
  cases n with
  | zero => exact ⟨fun pins s σ H Q I ⟨ρ, st, env, sr, er, g⟩ => g.elim⟩
  | succ m =>
    obtain ⟨⟨fd, ps, F, hb⟩, kp⟩ := ok.mks m rfl f _ hat
    rw [← ok.K] at F kp hb
    exact (pe_makeAny0 (mk_ok ok hc hat) F ok.room g1 k0 hb ok.tk g2).weak fun σ H Q ⟨ρ, s, env, sr, er, g⟩ => sp_make sr .nil g
/-! ### built-in functions -/
theorem freeB_ok (ok : XOk St T L fad n X sc fnb W) {y : Str} (h : freeB St sc y = true) : Gl X y ∧ X.mg y = none ∧ y ≠ ("__name__" : Str) ∧ (y == ("__debug__" : Str)) = false := by
  unfold freeB at h
  simp only [Bool.and_eq_true] at h
  obtain ⟨g1, g2, g3⟩ := glB_ok ok.sc h.1
  exact ⟨g1, ok.lk.free y h.2, g3, g2⟩
theorem r_bi (ok : XOk St T L fad n X sc fnb W) (b : Bi) {y : Str} {p0 : Pos} {e : Expr} (hy : y = Str.ofString b.val.1) (hf : freeB St sc y = true) (ho : (e :: es).all okE = true) (ha : PA X (e :: es) (rTA L W fs)) :
    PE X (.Call (.Name y p0) (e :: es) [] pos) (rTE L W fun env s => (fs env s).bind fun ds s => bi b ds s) := by
  obtain ⟨g1, g2, g3, g4⟩ := freeB_ok ok hf
  have ho' := ho
  simp only [List.all_cons, Bool.and_eq_true] at ho'
  have hr : CallR X b.val.2 (fun vs H Q => ∃ W, rC L W (bi b) vs H Q) := fun pins s σ H xs us Q I r ⟨W, q⟩ => bi_ok ok.K ok.calm b pins s σ H xs us Q I r q
  have key : PE X (.Call (.Name y p0) (e :: es) [] pos) (tCB (fun vs H Q => ∃ W, rC L W (bi b) vs H Q) (rTA L W fs)) := by
    subst hy
    cases b <;> first
      | exact pe_callB hr g1 g2 (by decide +kernel) ha g3 g4 (star_ok ho'.1) (any_back ho'.2)
      | exact pe_callTy hr g1 g2 (by first | decide +kernel | (show bootBuiltins (Str.ofString "list") = some (Value.type "list"); decide +kernel)) ha g3 g4 (star_ok ho'.1) (any_back ho'.2)
  exact key.weak fun σ H Q ⟨ρ, s, env, sr, er, g⟩ => ⟨ρ, s, env, sr, er, (Good.bind (rel := VL L.K) g).imp fun u H2 ⟨ρ2, s2, d2, e2, sr2, h2, g2⟩ => ⟨wx L W σ, ρ2, s2, d2, sr2, h2, g2⟩⟩
end rules
end JM

set_option autoImplicit false
/-! J11: methods of built-in types, isinstance, what is walked, comprehensions. -/
namespace JM
open PySem PySem.Spec PyProof.Rows L2

def rM (L : Lk) (b : Bm) : V → List V → Hp → VK → Prop := fun x vs H Q => ∃ W ρ s d ds, SR L ρ s H ∧ VR L.K ρ H d x ∧ VL L.K ρ H ds vs ∧ Good L (VR L.K) W ρ H Q (bm b d ds s)
section mt
variable {X : Cx} {L : Lk}
theorem VL.zero {ρ : Ro} {H : Hp} {xs : List V} (p : VL L.K ρ H [] xs) : xs = [] := by cases p; rfl
theorem m_append : MtR X "list.append" (rM L .append) := by
  rintro pins s σ H x xs v us Q I rx rs ⟨W, ρ, st, d, ds, sr, hd, p, g⟩
  unfold bm at g
  split at g <;> first | exact g.elim | skip
  all_goals (rename_i hb; try cases hb)
  rename_i k y
  split at g <;> first | exact g.elim | skip
  rename_i l hn
  split at g <;> first | exact g.elim | skip
  rename_i hl
  obtain ⟨a, rfl, hk, ys, h1, pl⟩ := sr.at hd hn (by intro z; cases z)
  obtain ⟨w, rfl, hw⟩ := VL.one p
  exact mt_append pins s σ H _ _ v us Q I rx rs ⟨a, ys, w, rfl, rfl, h1, by rw [← pl.length]; exact hl, g.wrote sr hk ⟨_, upd_same, VL.mono (pl.snoc hw) (Ex.write (List.mem_of_getElem? hk))⟩ vNon⟩
theorem m_pop : MtR X "list.pop" (rM L .pop) := by
  rintro pins s σ H x xs v us Q I rx rs ⟨W, ρ, st, d, ds, sr, hd, p, g⟩
  unfold bm at g
  split at g <;> first | exact g.elim | skip
  all_goals (rename_i hb; try cases hb)
  rename_i k
  split at g <;> first | exact g.elim | skip
  rename_i l hn
  split at g <;> first | exact g.elim | skip
  rename_i y hl
  obtain ⟨a, rfl, hk, ys, h1, pl⟩ := sr.at hd hn (by intro z; cases z)
  obtain rfl := VL.zero p
  obtain ⟨w, hw, hv⟩ := pget pl hl
  rw [pl.length] at hw
  have ew := Ex.write (H := H) (o := .lst ys.dropLast) (List.mem_of_getElem? hk)
  exact mt_pop pins s σ H _ _ v us Q I rx rs ⟨a, ys, w, rfl, rfl, h1, hw, g.wrote sr hk ⟨_, upd_same, VL.mono (pdropLast pl) ew⟩ (hv.mono ew)⟩
theorem m_clear : MtR X "list.clear" (rM L .clear) := by
  rintro pins s σ H x xs v us Q I rx rs ⟨W, ρ, st, d, ds, sr, hd, p, g⟩
  unfold bm at g
  split at g <;> first | exact g.elim | skip
  all_goals (rename_i hb; try cases hb)
  rename_i k
  split at g <;> first | exact g.elim | skip
  rename_i l hn
  obtain ⟨a, rfl, hk, ys, h1, pl⟩ := sr.at hd hn (by intro z; cases z)
  obtain rfl := VL.zero p
  exact mt_clear pins s σ H _ _ v us Q I rx rs ⟨a, ys, rfl, rfl, h1, g.wrote sr hk ⟨[], upd_same, .nil⟩ vNon⟩
theorem vStrs {K : PySem.W.Frag} {ρ : Ro} {H : Hp} : ∀ {l : List Str}, (l.all fun x => decide (x.length ≤ sizeLine) && PyData.strOk x) = true → VL K ρ H (l.map fun x => .f (.str x)) (l.map V.str)
  | [], _ => .nil
  | x :: l, h => by
    simp only [List.all_cons, Bool.and_eq_true, decide_eq_true_eq] at h
    exact .cons (vStr h.1.1 h.1.2) (vStrs (by simpa only [Bool.and_eq_true, decide_eq_true_eq] using h.2))
theorem m_split {m : Bool} : MtR X "str.split" (rM L (.split m)) := by
  rintro pins s σ H x xs v us Q I rx rs ⟨W, ρ, st, d, ds, sr, hd, p, g⟩
  unfold bm at g
  split at g <;> first | exact g.elim | skip
  all_goals (rename_i hb; try cases hb)
  rename_i a b
  split at g <;> first | exact g.elim | skip
  rename_i hz
  obtain ⟨rfl, _⟩ := hd.str
  obtain ⟨w, rfl, hw⟩ := VL.one p
  obtain ⟨rfl, _⟩ := hw.str
  exact mt_split pins s σ H _ _ v us Q I rx rs ⟨a, b, rfl, rfl, hz.1, hz.2.1, (newL_ok g sr (vStrs hz.2.2)).2⟩
theorem m_find : MtR X "str.find" (rM L .find) := by
  rintro pins s σ H x xs v us Q I rx rs ⟨W, ρ, st, d, ds, sr, hd, p, g⟩
  unfold bm at g
  split at g <;> first | exact g.elim | skip
  all_goals (rename_i hb; try cases hb)
  rename_i a b
  obtain ⟨rfl, _⟩ := hd.str
  obtain ⟨w, rfl, hw⟩ := VL.one p
  obtain ⟨rfl, _⟩ := hw.str
  exact mt_find pins s σ H _ _ v us Q I rx rs ⟨a, b, rfl, rfl, g.here sr (vInt _)⟩
theorem m_upper : MtR X "str.upper" (rM L .upper) := by
  rintro pins s σ H x xs v us Q I rx rs ⟨W, ρ, st, d, ds, sr, hd, p, g⟩
  unfold bm at g
  split at g <;> first | exact g.elim | skip
  all_goals (rename_i hb; try cases hb)
  rename_i a
  split at g <;> first | exact g.elim | skip
  rename_i hz
  obtain ⟨rfl, _⟩ := hd.str
  obtain rfl := VL.zero p
  exact mt_upper pins s σ H _ _ v us Q I rx rs ⟨a, rfl, rfl, hz.1, g.here sr (vStr hz.2.1 hz.2.2)⟩
theorem m_join (hK : X.K = L.K) : MtR X "str.join" (rM L .join) := by
  rintro pins s σ H x xs v us Q I rx rs ⟨W, ρ, st, d, ds, sr, hd, p, g⟩
  unfold bm at g
  split at g <;> first | exact g.elim | skip
  all_goals (rename_i hb; try cases hb)
  rename_i a d
  split at g <;> first | exact g.elim | skip
  rename_i ys hy
  split at g <;> first | exact g.elim | skip
  rename_i hz
  obtain ⟨rfl, _⟩ := hd.str
  obtain ⟨w, rfl, hw⟩ := VL.one p
  cases e1 : seqA d st with
  | none => rw [e1] at hy; cases hy
  | some l =>
    rw [e1] at hy
    obtain ⟨b, zs, rfl, q, k⟩ := seqA_ok e1 sr hw
    rw [← hK, (strsOf_ok k hy).1] at q
    exact mt_join pins s σ H _ _ v us Q I rx rs ⟨a, b, ys, rfl, rfl, q, hz.1, g.here sr (vStr hz.2.1 hz.2.2)⟩
theorem ty_str {ρ : Ro} {H : Hp} {a : Str} {v : V} (h : VR L.K ρ H (.f (.str a)) v) : tyV X.K "str" v H := by
  obtain ⟨rfl, _⟩ := h.str
  exact rfl
theorem ty_list {ρ : Ro} {H : Hp} {s : Sto} {n : Nat} {l : List D} {v : V} (sr : SR L ρ s H) (h : VR L.K ρ H (.loc n) v) (e : s[n]? = some (.lst l)) : tyV X.K "list" v H := by
  obtain ⟨a, rfl, hk, ys, h1, pl⟩ := sr.at h e (by intro z; cases z)
  exact .inl ⟨rfl, ys, .inl (.inl h1)⟩
end mt

section rules
variable {St : Stat} {T : Tb} {L : Lk} {fad : Nat → Addr} {n : Nat} {X : Cx} {sc : Scope} {fnb : Str → Bool} {W : WX}
variable {fa fb fc : Env' → Sto → R D} {fs : Env' → Sto → R (List D)} {p q r : Expr} {es : List Expr} {pos apos : Pos}
theorem few_ok {es : List Expr} {env : Env} (ho : es.all okE = true) (hn : es.length < 29) : ((backTo pos (starEach es env)).all (fun x => !x.1) && (backToKw pos (keywordEach [] env)).all (fun x => x.1.isSome)
      && decide (es.length + ([] : List Keyword).length + (if ([] : List Keyword).isEmpty then 0 else 1) < 30)) = true := by
  rw [few_back ho]
  show (true && true && decide (es.length + 0 + 0 < 30)) = true
  simp only [Bool.and_self, Bool.true_and, decide_eq_true_eq]
  omega
/-- a method with arguments, by its rule -/
theorem bm_form {b : Bm} {t id : String} (pa : PlainAttrs t) (slot : Slot t b.name id) (hty : typeOf (.builtin id) = pure (.type "method_descriptor")) (hm : MtR X id (rM L b)) {e : Expr}
    (ty : ∀ ρ H s d v, SR L ρ s H → VR L.K ρ H d v → bmTy b d s = true → tyV X.K t v H)
    (ho : okE p = true) (hk : isCall p = false) (hl : (apos.endLine == pos.line) = true) (he : (e :: es).all okE = true) (hn : (e :: es).length < 29) (ha : PE X p (rTE L W fa)) (hs : PA X (e :: es) (rTA L W fs)) :
    PE X (.Call (.Attribute p b.name apos) (e :: es) [] pos) (rTE L W fun env s => (fa env s).bind fun d s => if bmTy b d s then (fs env s).bind fun ds s => bm b d ds s else .fail) := by
  have he' := he
  simp only [List.all_cons, Bool.and_eq_true] at he'
  refine (pe_bm pa slot hty hm ha hs (base_ok ho hk) (few_ok he hn) hl (star_ok he'.1) (any_back he'.2)).weak fun σ H Q ⟨ρ, s, env, sr, er, g⟩ => ⟨ρ, s, env, sr, er, (Good.bind (rel := VR L.K) g).imp fun u H2 ⟨ρ2, s2, d2, e2, sr2, h2, g2⟩ => ?_⟩
  split at g2
  · rename_i ht
    exact ⟨ty _ _ _ _ _ sr2 h2 ht, ρ2, s2, env, sr2, er.mono e2, (Good.bind (rel := VL L.K) g2).imp fun us H3 ⟨ρ3, s3, d3, e3, sr3, h3, g3⟩ => ⟨wx L W σ, ρ3, s3, d2, d3, sr3, h2.mono e3, h3, g3⟩⟩
  · exact g2.elim
theorem bm_form0 {b : Bm} {t id : String} (pa : PlainAttrs t) (slot : Slot t b.name id) (hty : typeOf (.builtin id) = pure (.type "method_descriptor")) (hm : MtR X id (rM L b))
    (ty : ∀ ρ H s d v, SR L ρ s H → VR L.K ρ H d v → bmTy b d s = true → tyV X.K t v H)
    (ho : okE p = true) (hk : isCall p = false) (hl : (apos.endLine == pos.line) = true) (ha : PE X p (rTE L W fa)) :
    PE X (.Call (.Attribute p b.name apos) [] [] pos) (rTE L W fun env s => (fa env s).bind fun d s => if bmTy b d s then bm b d [] s else .fail) := by
  refine (pe_bm0 pa slot hty hm ha (base_ok ho hk) hl).weak fun σ H Q ⟨ρ, s, env, sr, er, g⟩ => ⟨ρ, s, env, sr, er, (Good.bind (rel := VR L.K) g).imp fun u H2 ⟨ρ2, s2, d2, e2, sr2, h2, g2⟩ => ?_⟩
  split at g2
  · rename_i ht
    exact ⟨ty _ _ _ _ _ sr2 h2 ht, wx L W σ, ρ2, s2, d2, [], sr2, h2, .nil, g2⟩
  · exact g2.elim
theorem r_bm0 {b : Bm} (hb : b.served 0 = true) (ho : okE p = true) (hk : isCall p = false) (hl : (apos.endLine == pos.line) = true) (ha : PE X p (rTE L W fa)) :
    PE X (.Call (.Attribute p b.name apos) [] [] pos) (rTE L W fun env s => (fa env s).bind fun d s => if bmTy b d s then bm b d [] s else .fail) := by
  cases b <;> first | (exact Bool.noConfusion (show false = true from hb)) | skip
  · refine bm_form0 PySem.F.plainAttrs_list PySem.F.slot_list_pop PySem.F.type_list_pop m_pop (fun ρ H s d v sr h e => ?_) ho hk hl ha
    unfold bmTy at e
    split at e <;> first | (cases e; done) | skip
    all_goals (rename_i hb; try cases hb)
    split at e <;> first | (cases e; done) | skip
    rename_i hn; exact ty_list sr h hn
  · refine bm_form0 PySem.F.plainAttrs_list PySem.F.slot_list_clear PySem.F.type_list_clear m_clear (fun ρ H s d v sr h e => ?_) ho hk hl ha
    unfold bmTy at e
    split at e <;> first | (cases e; done) | skip
    all_goals (rename_i hb; try cases hb)
    split at e <;> first | (cases e; done) | skip
    rename_i hn; exact ty_list sr h hn
  · refine bm_form0 PySem.F.plainAttrs_str PySem.F.slot_str_upper PySem.F.type_str_upper m_upper (fun ρ H s d v sr h e => ?_) ho hk hl ha
    unfold bmTy at e
    split at e <;> first | (cases e; done) | skip
    all_goals (rename_i hb; try cases hb)
    exact ty_str h
theorem isD_of {ρ : Ro} {H : Hp} {s : Sto} {d : D} {v : V} (sr : SR L ρ s H) (h : VR L.K ρ H d v) (e : bmTy .get1 d s = true) : ∃ a, v = .ref a ∧ IsD H a := by
  unfold bmTy at e
  split at e <;> first | (cases e; done) | skip
  all_goals (rename_i hb; try cases hb)
  · obtain ⟨a, xs, rfl, ⟨⟨od, h1⟩, _⟩, _⟩ := VF.dct_iff.mp (VR.f_iff.mp h)
    exact ⟨a, rfl, .inl ⟨xs, .inr ⟨od, h1⟩⟩⟩
  · split at e <;> first | (cases e; done) | skip
    · rename_i hn
      obtain ⟨a, rfl, _, xs, h1, _⟩ := sr.at h hn (by intro z; cases z)
      exact ⟨a, rfl, .inl ⟨xs, .inl h1⟩⟩
    · rename_i hn
      obtain ⟨a, rfl, _, xs, h1, _⟩ := sr.at h hn (by intro z; cases z)
      exact ⟨a, rfl, .inr ⟨xs, .inl h1⟩⟩
def isGet1 : Bm → Bool
  | .get1 => true | _ => false
theorem r_bmN (ok : XOk St T L fad n X sc fnb W) {b : Bm} {e : Expr} (hb : b.served 1 = true) (hg : isGet1 b = false) (ho : okE p = true) (hk : isCall p = false) (hl : (apos.endLine == pos.line) = true) (he : [e].all okE = true) (ha : PE X p (rTE L W fa)) (hs : PA X [e] (rTA L W fs)) :
    PE X (.Call (.Attribute p b.name apos) [e] [] pos) (rTE L W fun env s => (fa env s).bind fun d s => if bmTy b d s then (fs env s).bind fun ds s => bm b d ds s else .fail) := by
  have hn : [e].length < 29 := (show 1 < 29 by decide)
  cases b <;> first | (exact Bool.noConfusion (show false = true from hb)) | (exact Bool.noConfusion (show true = false from hg)) | skip
  · refine bm_form (b := .append) PySem.F.plainAttrs_list PySem.F.slot_list_append PySem.F.type_list_append m_append (fun ρ H s d v sr h e => ?_) ho hk hl he hn ha hs
    unfold bmTy at e
    split at e <;> first | (cases e; done) | skip
    all_goals (rename_i hb; try cases hb)
    split at e <;> first | (cases e; done) | skip
    rename_i hn; exact ty_list sr h hn
  · rename_i m; refine bm_form (b := .split m) PySem.F.plainAttrs_str PySem.F.slot_str_split PySem.F.type_str_split m_split (fun ρ H s d v sr h e => ?_) ho hk hl he hn ha hs
    unfold bmTy at e
    split at e <;> first | (cases e; done) | skip
    all_goals (rename_i hb; try cases hb)
    exact ty_str h
  · refine bm_form (b := .find) PySem.F.plainAttrs_str PySem.F.slot_str_find PySem.F.type_str_find m_find (fun ρ H s d v sr h e => ?_) ho hk hl he hn ha hs
    unfold bmTy at e
    split at e <;> first | (cases e; done) | skip
    all_goals (rename_i hb; try cases hb)
    exact ty_str h
  · refine bm_form (b := .join) PySem.F.plainAttrs_str PySem.F.slot_str_join PySem.F.type_str_join (m_join ok.K) (fun ρ H s d v sr h e => ?_) ho hk hl he hn ha hs
    unfold bmTy at e
    split at e <;> first | (cases e; done) | skip
    all_goals (rename_i hb; try cases hb)
    exact ty_str h
theorem trees_ok : ∀ {es : List Expr} {env : Env}, es.all okE = true → backTo pos (starEach es env) = es.map fun e => (false, eval e env)
  | [], _, _ => rfl
  | e :: es, env, h => by
    simp only [List.all_cons, Bool.and_eq_true] at h
    rw [star_ok h.1, List.map_cons, ← trees_ok h.2]
    rfl
theorem r_get1 (ok : XOk St T L fad n X sc fnb W) (ho : okE p = true) (hk : isCall p = false) (hl : (apos.endLine == pos.line) = true) (he : okE q = true) (ha : PE X p (rTE L W fa)) (hq : PE X q (rTE L W fb)) :
    PE X (.Call (.Attribute p "get" apos) [q] [] pos) (rTE L W fun env s => (fa env s).bind fun d s => if bmTy .get1 d s then (fb env s).bind fun k s => bm .get1 d [k] s else .fail) := by
  have h1 : [q].all okE = true := by simp [he]
  refine (pe_dget1 (by have := ok.hu; omega) ha hq ⟨base_ok ho hk, few_ok h1 (show 1 < 29 by decide), hl, trees_ok h1⟩).weak fun σ H Q ⟨ρ, s, env, sr, er, g⟩ => ⟨ρ, s, env, sr, er, (Good.bind (rel := VR L.K) g).imp fun u H2 ⟨ρ2, s2, d2, e2, sr2, h2, g2⟩ => ?_⟩
  split at g2
  · rename_i ht
    obtain ⟨a, rfl, hd⟩ := isD_of sr2 h2 ht
    refine ⟨a, rfl, hd, ρ2, s2, env, sr2, er.mono e2, (Good.bind (rel := VR L.K) g2).imp fun us H3 ⟨ρ3, s3, d3, e3, sr3, h3, g3⟩ => ?_⟩
    unfold bm at g3
    dsimp only at g3
    split at g3
    · rename_i w hw
      obtain ⟨a', o, ea, gg, _, hh⟩ := dGet_ok hw sr3 (h2.mono e3) h3
      cases ea
      obtain ⟨w', rfl, hv⟩ := hh _ rfl
      exact ⟨_, gg, g3.here sr3 hv⟩
    · rename_i hw
      obtain ⟨a', o, ea, gg, hs, hh⟩ := dGet_ok hw sr3 (h2.mono e3) h3
      cases ea
      cases o with
      | none => exact ⟨_, gg, g3.here sr3 vNon⟩
      | some o => cases hs
    · exact g3.elim
  · exact g2.elim
theorem r_get2 (ok : XOk St T L fad n X sc fnb W) (ho : okE p = true) (hk : isCall p = false) (hl : (apos.endLine == pos.line) = true) (he : okE q = true) (he2 : okE r = true) (ha : PE X p (rTE L W fa)) (hq : PE X q (rTE L W fb)) (hr : PE X r (rTE L W fc)) :
    PE X (.Call (.Attribute p "get" apos) [q, r] [] pos) (rTE L W fun env s => (fa env s).bind fun d s => if bmTy .get2 d s then (fb env s).bind fun k s => (fc env s).bind fun x s => bm .get2 d [k, x] s else .fail) := by
  have h1 : [q, r].all okE = true := by simp [he, he2]
  refine (pe_dget2 (by have := ok.hu; omega) ha hq hr ⟨base_ok ho hk, few_ok h1 (show 2 < 29 by decide), hl, trees_ok h1⟩).weak fun σ H Q ⟨ρ, s, env, sr, er, g⟩ => ⟨ρ, s, env, sr, er, (Good.bind (rel := VR L.K) g).imp fun u H2 ⟨ρ2, s2, d2, e2, sr2, h2, g2⟩ => ?_⟩
  split at g2
  · rename_i ht
    obtain ⟨a, rfl, hd⟩ := isD_of sr2 h2 (by
      cases d2 with
      | f x => cases x <;> exact ht
      | loc n => exact ht
      | tup l => exact ht)
    refine ⟨a, rfl, hd, ρ2, s2, env, sr2, er.mono e2, (Good.bind (rel := VR L.K) g2).imp fun us H3 ⟨ρ3, s3, d3, e3, sr3, h3, g3⟩ => ?_⟩
    refine ⟨ρ3, s3, env, sr3, (er.mono e2).mono e3, (Good.bind (rel := VR L.K) g3).imp fun us H4 ⟨ρ4, s4, d4, e4, sr4, h4, g4⟩ => ?_⟩
    unfold bm at g4
    dsimp only at g4
    split at g4
    · rename_i w hw
      obtain ⟨a', o, ea, gg, _, hh⟩ := dGet_ok hw sr4 (h2.mono (e3.trans e4)) (h3.mono e4)
      cases ea
      obtain ⟨w', rfl, hv⟩ := hh _ rfl
      exact ⟨_, gg, g4.here sr4 hv⟩
    · rename_i hw
      obtain ⟨a', o, ea, gg, hs, hh⟩ := dGet_ok hw sr4 (h2.mono (e3.trans e4)) (h3.mono e4)
      cases ea
      cases o with
      | none => exact ⟨_, gg, g4.here sr4 h4⟩
      | some o => cases hs
    · exact g4.elim
  · exact g2.elim

/-! ### isinstance -/
def tyOfF : F → String
  | .non => "NoneType" | .bl _ => "bool" | .int _ => "int" | .str _ => "str" | .tup _ => "tuple" | .ktup _ => "tuple" | .lst _ => "list" | .scr _ => "list" | .dct _ => "dict"
def plainF : F → Bool
  | .dct _ => false | .scr _ => false | _ => true
theorem boot_ty (t : Ty) : bootBuiltins (Str.ofString t.name) = some (.type t.name) := by
  cases t <;> (simp only [Ty.name]; decide +kernel)
theorem tyX_of {ρ : Ro} {H : Hp} {x : F} {v : V} (h : VF L.K ρ H x v) (hs : plainF x = true) : TyX L.K H v (.type (tyOfF x)) := by
  cases x with
  | non => simp only [VF] at h; subst h; exact .base .non
  | bl b => simp only [VF] at h; subst h; exact .base (.bl b)
  | int b => simp only [VF] at h; subst h; exact .base (.int b)
  | str b => simp only [VF] at h; obtain ⟨rfl, _⟩ := h; exact .base (.str b)
  | tup b => obtain ⟨a, xs, rfl, ⟨h1, _⟩, _⟩ := VF.tup_iff.mp h; exact .base (.tup h1)
  | ktup b =>
    obtain ⟨a, xs, rfl, ⟨o, its, k, h1, h2, _⟩, _⟩ := VF.ktup_iff.mp h
    exact .kTuple h1 h2
  | lst b => obtain ⟨a, xs, rfl, ⟨h1, _⟩, _⟩ := VF.lst_iff.mp h; exact .base (.lst h1)
  | scr b => cases hs
  | dct b => cases hs
theorem kit_tab {K : PySem.W.Frag} {x : F} {t : Ty} (hs : plainF x = true) : PySem.W.kitOne K (.type (tyOfF x)) (.type t.name) = some (tyIs t x) := by
  cases x <;> first | (cases hs; done) | skip
  all_goals (cases t <;> (simp only [tyOfF, Ty.name, tyIs]; exact kit_ty (by decide +kernel)))
theorem pe_tyE (ok : XOk St T L fad n X sc fnb W) {t : Ty} {e : Expr} (h : tyE St sc t e = true) : PE X e (tC (.ty t.name)) ∧ okE e = true := by
  unfold tyE at h
  split at h
  · simp only [Bool.and_eq_true, decide_eq_true_eq] at h
    obtain ⟨rfl, h2⟩ := h
    obtain ⟨g1, g2, g3, g4⟩ := freeB_ok ok h2
    refine ⟨?_, rfl⟩
    rename_i t _ _
    exact pe_bltn g1 g2 (boot_ty _) rfl g3 g4
  · cases h
theorem r_isi (ok : XOk St T L fad n X sc fnb W) {t : Ty} {y : Str} {p0 : Pos} (hy : y = ("isinstance" : Str)) (hf : freeB St sc y = true) (hp : okE p = true) (ha : PE X p (rTE L W fa)) (ht : tyE St sc t q = true) :
    PE X (.Call (.Name y p0) [p, q] [] pos) (rTE L W fun env s => (fa env s).bind fun d s => isiD d [t] s) := by
  obtain ⟨g1, g2, g3, g4⟩ := freeB_ok ok hf
  obtain ⟨hq, oq⟩ := pe_tyE ok ht
  subst hy
  have ho : [p, q].all okE = true := by simp [hp, oq]
  refine (pe_callB call_isi g1 g2 (by decide +kernel) (pa_cons ha (pa_cons hq pa_nil (star_ok oq)) (star_ok hp)) g3 g4 (star_ok hp) (any_back (by simp [oq]))).weak fun σ H Q ⟨ρ, s, env, sr, er, g⟩ => ?_
  refine ⟨ρ, s, env, sr, er, (Good.bind (rel := VR L.K) g).imp fun u H2 ⟨ρ2, s2, d2, e2, sr2, h2, g2⟩ => ?_⟩
  unfold isiD at g2
  split at g2
  · exact g2.elim
  · exact g2.elim
  · rename_i x hx1 hx2
    have hs : plainF x = true := by
      cases x <;> first | rfl | exact (hx1 _ rfl).elim | exact (hx2 _ rfl).elim
    have g3 := g2.here sr2 (vBl _)
    simp only [List.any_cons, List.any_nil, Bool.or_false] at g3
    exact ⟨u, .ty t.name, _, _, _, rfl, .ty _, by rw [ok.K]; exact tyX_of (VR.f_iff.mp h2) hs, kit_tab hs, g3⟩
  · exact g2.elim
/-! ### len(set(..)) -/
theorem strs_of : ∀ {ys : List Str} {us : List Value}, Vals (ys.map V.str) us → StrsAre us ys
  | [], _, .nil => .nil
  | y :: ys, _, .cons r t => by
    obtain ⟨k, rfl⟩ := r
    exact .cons y k (strs_of t)
theorem r_dst (ok : XOk St T L fad n X sc fnb W) {y z : Str} {p0 p1 pos2 : Pos} (hy : y = ("len" : Str)) (hf : freeB St sc y = true) (hz : z = ("set" : Str)) (hf2 : freeB St sc z = true) (hp : okE p = true) (ha : PE X p (rTE L W fa)) :
    PE X (.Call (.Name y p0) [.Call (.Name z p1) [p] [] pos2] [] pos) (rTE L W fun env s => (fa env s).bind fun d s => dstD d s) := by
  obtain ⟨g1, g2, g3, g4⟩ := freeB_ok ok hf
  obtain ⟨k1, k2, k3, k4⟩ := freeB_ok ok hf2
  subst hy; subst hz
  have hK := ok.K
  refine ⟨fun pins s σ H Q I ⟨ρ, st, env, sr, er, g⟩ => ?_⟩
  refine Call_ (ld_blt I g1 g2 boot_len ?_)
  refine PyProof.Rows.callWith_builtin1 (PyProof.Rows.args_cons ?_ rfl) rfl rfl
  refine Call_ (ld_blt I k1 k2 boot_set ?_)
  refine PyProof.Rows.callWith_type1 (PyProof.Rows.args_cons (thn (ha.run pins s σ H _ I ⟨ρ, st, env, sr, er, (Good.bind (rel := VR L.K) g)⟩) fun v s1 ⟨x, H1, I1, r1, ρ2, s2, d2, e2, sr2, h2, g2⟩ => PyProof.Rows.args_nil ?_) (star_ok hp)) (star_ok hp) rfl
  unfold dstD at g2
  cases e : (seqA d2 s2).bind strsOf with
  | none => rw [e] at g2; exact g2.elim
  | some ys =>
    rw [e] at g2
    simp only at g2
    split at g2
    · rename_i few
      cases e1 : seqA d2 s2 with
      | none => rw [e1] at e; cases e
      | some l =>
        rw [e1] at e
        obtain ⟨a, xs, rfl, hq, hl⟩ := seqA_ok e1 sr2 h2
        obtain ⟨rfl, _⟩ := strsOf_ok hl e
        rw [← hK] at hq
        cases r1
        have done : ∀ (its : List Value), Vals (ys.map V.str) its → ∀ (h' : Heap) (tk : Nat), h'.SetOf (PySem.strKind X.prog X.w) s1.heap.objs.size (fun q => (met ys its.toArray.size).contains q) (met ys its.toArray.size).length →
            (∀ b o, b < s1.heap.objs.size → s1.heap.get? b = some o → h'.get? b = some o) →
            wpAny (model X.prog X.w) X.A (spliced (backTo pos (starEach [] X.env))) (fun vs s₂ => wpAny (model X.prog X.w) X.A (call (.builtin "len") (Value.ref s1.heap.objs.size :: vs)) (EP X pins σ Q) X.xe s₂) X.xe { s1 with heap := h', toks := tk } := fun its r h' tk hS hk => by
          refine PyProof.Rows.args_nil ?_
          have hl : its.toArray.size = ys.length := by rw [List.size_toArray, ← r.length, List.length_map]
          rw [hl] at hS
          have bd := met_len ys ys.length
          obtain ⟨o, es, ep, t, ho, hex, hd, _, _, _, hf, hn⟩ := hS
          have I2 : Inv X pins σ H1 { s1 with heap := h', toks := tk } := I1.kept fun b o e => hk b o (Heap.lt_size e) e
          refine call_len_set ho hex hd hf (by rw [hn] <;> omega) ⟨.int (dst ys : Nat), H1, I2.tok _, ⟨_, by rw [hn]; rfl⟩, ?_⟩
          exact g2.here sr2 (vInt _)
        rcases hq with hq | hq
        · obtain ⟨its, r, pl, hz⟩ := I1.list hq
          exact set_of_lst (I1.ok.hd ok.calm) pl.isList (by simpa using strs_of r) (by unfold scanBound; omega) fun h' tk hS hk => done its r h' tk hS hk
        · obtain ⟨its, r, pl, hz⟩ := I1.tuple hq
          exact set_of_tup (I1.ok.hd ok.calm) pl (by simpa using strs_of r) (by unfold scanBound; omega) fun h' tk hS hk => done its r h' tk hS hk
    · exact g2.elim
end rules
end JM

set_option autoImplicit false
/-! J12: what is walked; comprehensions. -/
namespace JM
open PySem PySem.Spec PyProof.Rows L2

theorem _root_.L2.PO.weak {X : Cx} {e : Option Expr} {t t' : TO} (h : PO X e t) (k : ∀ σ H Q, t' σ H Q → t σ H Q) : PO X e t' := ⟨fun pins s σ H Q I q => h.run pins s σ H Q I (k σ H Q q)⟩
section rules
variable {St : Stat} {T : Tb} {L : Lk} {fad : Nat → Addr} {n : Nat} {X : Cx} {sc : Scope} {fnb : Str → Bool} {W : WX}
variable {fa fb fc : Env' → Sto → R D} {fs : Env' → Sto → R (List D)} {p q r tg : Expr} {es : List Expr} {pos p0 : Pos}

/-- a frozen list, from now on -/
theorem frz_ok {ρ : Ro} {H : Hp} {d : D} {l : List D} {v : V} (e : frzL d = some l) (h : VR L.K ρ H d v) :
    ∃ a xs, ∃ fs : List F, v = .ref a ∧ l = fs.map .f ∧ ∀ ρ' (s' : Sto) H', Ex ρ H ρ' H' → SR L ρ' s' H' → SqL L.K H' a xs ∧ FL L.K ρ' H' fs xs := by
  unfold frzL at e
  split at e
  · cases e
    obtain ⟨a, xs, rfl, ⟨h1, no⟩, hl, p⟩ := VF.lst_iff.mp (VR.f_iff.mp h)
    exact ⟨a, xs, _, rfl, rfl, fun ρ' s' H' ex _ => ⟨.inl (.inl (ex.keep _ _ h1 no.1)), p.mono ex⟩⟩
  · cases e
    have h' := VR.f_iff.mp h
    simp only [VF] at h'
    obtain ⟨a, rfl, hr, hl⟩ := h'
    rename_i l
    refine ⟨a, l.map V.int, l.map F.int, rfl, by rw [List.map_map]; rfl, fun ρ' s' H' ex _ => ⟨?_, FL.ints⟩⟩
    rcases hr with ⟨hr, no⟩ | hr
    · exact .inl (ex.rd hr no).1
    · exact .inr hr
  · cases e
/-- a tuple, from now on -/
theorem tup_ok {ρ : Ro} {H : Hp} {d : D} {l : List D} {v : V} (e : seqT d = some l) (h : VR L.K ρ H d v) :
    ∃ a xs, v = .ref a ∧ ∀ ρ' (s' : Sto) H', Ex ρ H ρ' H' → SR L ρ' s' H' → SqT L.K H' a xs ∧ VL L.K ρ' H' l xs := by
  unfold seqT at e
  split at e
  · cases e
    obtain ⟨a, xs, rfl, ⟨h1, no⟩, hl, p⟩ := VF.tup_iff.mp (VR.f_iff.mp h)
    exact ⟨a, xs, rfl, fun ρ' s' H' ex _ => ⟨.inl (.inl (ex.keep _ _ h1 no.1)), (p.mono ex).toVL⟩⟩
  · cases e
    obtain ⟨a, xs, rfl, h1, hl, p⟩ := VF.ktup_iff.mp (VR.f_iff.mp h)
    exact ⟨a, xs, rfl, fun ρ' s' H' ex _ => ⟨.inr h1, (p.mono ex).toVL⟩⟩
  · cases e
    obtain ⟨a, xs, rfl, ⟨h1, no⟩, hl, p⟩ := VR.tup_iff.mp h
    exact ⟨a, xs, rfl, fun ρ' s' H' ex _ => ⟨.inl (.inl (ex.keep _ _ h1 no.1)), p.mono ex⟩⟩
  · cases e
theorem r_iseq (hK : X.K = L.K) (ha : PE X p (rTE L W fa)) : PI X tg p (rTI L W fun env s => (fa env s).bind fun d s => (match itemsD d with | some l => .ok l s | none => .fail)) := by
  have h1 := pi_list (tg := tg) ha
  have h2 := pi_tup (tg := tg) ha
  rw [hK] at h1 h2
  have h4 := pi_keys (tg := tg) ha
  refine (PI.or (pi_str ha) (PI.or h1 (PI.or h2 h4))).weak fun σ H Rr ⟨ρ, s, env, sr, er, g⟩ => ?_
  cases e : fa env s with
  | fail => simp only [e] at g; exact g.elim
  | exc x s1 => exact .inl ⟨ρ, s, env, sr, er, by simp only [e] at g ⊢; exact g⟩
  | ok d s1 =>
    simp only [e, R.bind_ok] at g
    cases ei : itemsD d with
    | none => simp only [ei] at g; exact g.elim
    | some l =>
      simp only [ei] at g
      have asT : seqT d = some l → iTup L.K (rTE L W fa) σ H Rr := fun et => ⟨ρ, s, env, sr, er, by
        rw [e]
        exact fun ρ' H' v ex sr' hv => by
          obtain ⟨a, xs, rfl, hh⟩ := tup_ok et hv
          exact ⟨a, rfl, ⟨xs, (hh _ _ _ Ex.refl sr').1⟩, g ρ' H' _ ex sr' (JR.tup hh)⟩⟩
      have asL : frzL d = some l → iList L.K (rTE L W fa) σ H Rr := fun et => ⟨ρ, s, env, sr, er, by
        rw [e]
        exact fun ρ' H' v ex sr' hv => by
          obtain ⟨a, xs, fs, rfl, rfl, hh⟩ := frz_ok et hv
          exact ⟨a, rfl, ⟨xs, (hh _ _ _ Ex.refl sr').1⟩, g ρ' H' _ ex sr' (JR.list hh)⟩⟩
      unfold itemsD at ei
      split at ei
      · rename_i z
        cases ei
        exact .inl ⟨ρ, s, env, sr, er, by
          rw [e]
          exact fun ρ' H' v ex sr' hv => ⟨z, hv.str.1, g ρ' H' _ ex sr' (JR.str hv.str.2.2)⟩⟩
      · cases ei; exact .inr (.inl (asL rfl))
      · cases ei; exact .inr (.inl (asL rfl))
      · split at ei
        · rename_i hk
          cases ei
          exact .inr (.inr (.inr ⟨ρ, s, env, sr, er, by
            rw [e]
            exact fun ρ' H' v ex sr' hv => by
              obtain ⟨a, xs, rfl, ⟨⟨od, h1⟩, no⟩, _, p⟩ := VF.dct_iff.mp (VR.f_iff.mp hv)
              exact ⟨a, od, rfl, .inl ⟨xs, h1, g ρ' H' _ ex sr' (JR.keys h1 no p hk)⟩⟩⟩))
        · cases ei
      · exact .inr (.inr (.inl (asT ei)))
theorem pa1 (hp : okE p = true) (ha : PE X p (rTE L W fa)) : PA X [p] (rTA L W fun env s => (fa env s).bind fun d s => .ok [d] s) := by
  exact r_cons hp ha r_nil
theorem pa2 (hp : okE p = true) (hq : okE q = true) (ha : PE X p (rTE L W fa)) (hb : PE X q (rTE L W fb)) : PA X [p, q] (rTA L W fun env s => (fa env s).bind fun d s => (fb env s).bind fun e s => .ok [d, e] s) := by
  refine (r_cons hp ha (pa1 hq hb)).weak fun σ H Q ⟨ρ, s, env, sr, er, g⟩ => ⟨ρ, s, env, sr, er, ?_⟩
  dsimp only at g ⊢
  have : ((fa env s).bind fun d s => ((fb env s).bind fun d s => .ok [d] s).bind fun ds s => .ok (d :: ds) s) = ((fa env s).bind fun d s => (fb env s).bind fun e s => .ok [d, e] s) := by
    congr 1
    funext d s
    cases fb env s <;> rfl
  rw [this]; exact g
theorem back0 {pos : Pos} {p : Expr} {env : Env} (hp : okE p = true) : starEach [p] env = [(false, eval p env)] := by rw [star_ok hp]; rfl
theorem Good.one {α β : Type} {rel : Ro → Hp → α → β → Prop} {W' : Nat → Hp → Prop} {ρ : Ro} {H : Hp} {Q : β → Hp → Prop} {r : R D} {f : D → Sto → R α} (g : Good L rel W' ρ H Q (r.bind f)) :
    Good L (VL L.K) W' ρ H (fun vs H1 => ∃ v ρ1 s1 d, vs = [v] ∧ Ex ρ H ρ1 H1 ∧ SR L ρ1 s1 H1 ∧ VR L.K ρ1 H1 d v ∧ Good L rel W' ρ1 H1 Q (f d s1)) (r.bind fun d s => .ok [d] s) := by
  cases r with
  | ok d s =>
    exact fun ρ' H' vs ex sr p => by
      obtain ⟨x, rfl, hx⟩ := VL.one p
      exact ⟨x, ρ', s, d, rfl, ex, sr, hx, Good.later g ex⟩
  | exc x s => exact g
  | fail => exact g
theorem Good.two {α β : Type} {rel : Ro → Hp → α → β → Prop} {W' : Nat → Hp → Prop} {ρ : Ro} {H : Hp} {Q : β → Hp → Prop} {r : R D} {k : Sto → R D} {f : D → D → Sto → R α} (g : Good L rel W' ρ H Q (r.bind fun d s => (k s).bind fun e s => f d e s)) :
    Good L (VL L.K) W' ρ H (fun vs H1 => ∃ v w ρ1 s1 d e, vs = [v, w] ∧ Ex ρ H ρ1 H1 ∧ SR L ρ1 s1 H1 ∧ VR L.K ρ1 H1 d v ∧ VR L.K ρ1 H1 e w ∧ Good L rel W' ρ1 H1 Q (f d e s1)) (r.bind fun d s => (k s).bind fun e s => .ok [d, e] s) := by
  cases r with
  | ok d s =>
    simp only [R.bind_ok] at g ⊢
    cases hk : k s with
    | ok e s1 =>
      rw [hk] at g
      exact fun ρ' H' vs ex sr p => by
        obtain ⟨x, y, rfl, hx, hy⟩ := VL.two p
        exact ⟨x, y, ρ', s1, d, e, rfl, ex, sr, hx, hy, Good.later g ex⟩
    | exc x s1 => rw [hk] at g; exact g
    | fail => rw [hk] at g; exact g
  | exc x s => exact g
  | fail => exact g
theorem inRng_ok {i : Int} (h : inRng i = true) : -(2 ^ 62) ≤ i ∧ i < 2 ^ 62 := by
  unfold inRng at h
  simp only [Bool.and_eq_true, decide_eq_true_eq] at h
  exact h
theorem r_rng1 (ok : XOk St T L fad n X sc fnb W) {y : Str} (hy : y = ("range" : Str)) (hf : freeB St sc y = true) (hp : okE p = true) (ha : PE X p (rTE L W fa)) :
    PI X tg (.Call (.Name y p0) [p] [] pos) (rTI L W fun env s => (fa env s).bind fun d s => (match d with | .f (.int i) => if inRng i then .ok (rngL 0 i.toNat) s else .fail | _ => .fail)) := by
  obtain ⟨g1, g2, g3, g4⟩ := freeB_ok ok hf
  subst hy
  refine (pi_range1 g1 g2 (pa1 hp ha) (back0 (pos := pos) hp)).weak fun σ H Rr ⟨ρ, s, env, sr, er, g⟩ => ⟨ρ, s, env, sr, er, (Good.one g).imp fun vs H1 ⟨v, ρ1, s1, d, hv, ex, sr1, h1, g1⟩ => ?_⟩
  subst hv
  split at g1
  · split at g1
    · rename_i i hi
      obtain rfl := h1.int
      obtain ⟨a, b⟩ := inRng_ok hi
      exact ⟨i, rfl, a, b, g1 ρ1 H1 _ Ex.refl sr1 JR.rng⟩
    · exact g1.elim
  · exact g1.elim
theorem back2 {p q : Expr} {env : Env} (hp : okE p = true) (hq : okE q = true) : starEach [p, q] env = [(false, eval p env), (false, eval q env)] := by rw [star_ok hp, star_ok hq]; rfl
theorem r_rng2 (ok : XOk St T L fad n X sc fnb W) {y : Str} (hy : y = ("range" : Str)) (hf : freeB St sc y = true) (hp : okE p = true) (hq : okE q = true) (ha : PE X p (rTE L W fa)) (hb : PE X q (rTE L W fb)) :
    PI X tg (.Call (.Name y p0) [p, q] [] pos) (rTI L W fun env s => (fa env s).bind fun d s => (fb env s).bind fun e s => (match d, e with
    | .f (.int i), .f (.int j) => if inRng i && inRng j then .ok (rngL i (j - i).toNat) s else .fail
    | _, _ => .fail)) := by
  obtain ⟨g1, g2, g3, g4⟩ := freeB_ok ok hf
  subst hy
  refine (pi_range2 g1 g2 (pa2 hp hq ha hb) (back2 hp hq) (back0 (pos := pos) hq)).weak fun σ H Rr ⟨ρ, s, env, sr, er, g⟩ => ⟨ρ, s, env, sr, er, (Good.two g).imp fun vs H1 ⟨v, w, ρ1, s1, d, e, hv, ex, sr1, h1, h2, g1⟩ => ?_⟩
  subst hv
  split at g1
  · split at g1
    · rename_i i j hi
      obtain rfl := h1.int
      obtain rfl := h2.int
      simp only [Bool.and_eq_true] at hi
      obtain ⟨a, b⟩ := inRng_ok hi.1
      obtain ⟨a', b'⟩ := inRng_ok hi.2
      exact ⟨i, j, rfl, ⟨a, b, a', b'⟩, g1 ρ1 H1 _ Ex.refl sr1 JR.rng⟩
    · exact g1.elim
  · exact g1.elim
theorem r_irev (ok : XOk St T L fad n X sc fnb W) {y : Str} (hy : y = ("reversed" : Str)) (hf : freeB St sc y = true) (hp : okE p = true) (ha : PE X p (rTE L W fa)) :
    PI X tg (.Call (.Name y p0) [p] [] pos) (rTI L W fun env s => (fa env s).bind fun d s => (match frzL d with | some l => .ok l.reverse s | none => .fail)) := by
  obtain ⟨g1, g2, g3, g4⟩ := freeB_ok ok hf
  subst hy
  have h0 := pi_reversed (tg := tg) (p := p0) (pos := pos) g1 g2 (pa1 hp ha) (back0 (pos := pos) hp)
  rw [ok.K] at h0
  refine h0.weak fun σ H Rr ⟨ρ, s, env, sr, er, g⟩ => ⟨ρ, s, env, sr, er, (Good.one g).imp fun vs H1 ⟨v, ρ1, s1, d, hv, ex, sr1, h1, g1⟩ => ?_⟩
  subst hv
  cases e : frzL d with
  | none => rw [e] at g1; exact g1.elim
  | some l =>
    rw [e] at g1
    obtain ⟨a, xs, fs, rfl, rfl, hh⟩ := frz_ok e h1
    exact ⟨a, xs, rfl, (hh _ _ _ Ex.refl sr1).1, g1 ρ1 H1 _ Ex.refl sr1 (JR.rev hh (hh _ _ _ Ex.refl sr1).2.length)⟩
theorem r_enm (ok : XOk St T L fad n X sc fnb W) {y : Str} (ht : isTupE tg = true) (hy : y = ("enumerate" : Str)) (hf : freeB St sc y = true) (hp : okE p = true) (ha : PE X p (rTE L W fa)) :
    PI X tg (.Call (.Name y p0) [p] [] pos) (rTI L W fun env s => (fa env s).bind fun d s => (match frzL d with | some l => .ok (enmL l) s | none => .fail)) := by
  obtain ⟨g1, g2, g3, g4⟩ := freeB_ok ok hf
  subst hy
  cases tg <;> first | (exact Bool.noConfusion (show false = true from ht)) | skip
  rename_i elts kk tpos
  have h0 := pi_enum (elts := elts) (kk := kk) (tpos := tpos) (p := p0) (pos := pos) g1 g2 (pa1 hp ha) (back0 (pos := pos) hp)
  rw [ok.K] at h0
  refine h0.weak fun σ H Rr ⟨ρ, s, env, sr, er, g⟩ => ⟨ρ, s, env, sr, er, (Good.one g).imp fun vs H1 ⟨v, ρ1, s1, d, hv, ex, sr1, h1, g1⟩ => ?_⟩
  subst hv
  cases e : frzL d with
  | none => rw [e] at g1; exact g1.elim
  | some l =>
    rw [e] at g1
    obtain ⟨a, xs, fs, rfl, rfl, hh⟩ := frz_ok e h1
    exact ⟨a, xs, rfl, (hh _ _ _ Ex.refl sr1).1, g1 ρ1 H1 _ Ex.refl sr1 (JR.enm hh)⟩
theorem r_zip (ok : XOk St T L fad n X sc fnb W) {y : Str} (ht : isTupE tg = true) (hy : y = ("zip" : Str)) (hf : freeB St sc y = true) (hp : okE p = true) (hq : okE q = true) (ha : PE X p (rTE L W fa)) (hb : PE X q (rTE L W fb)) :
    PI X tg (.Call (.Name y p0) [p, q] [] pos) (rTI L W fun env s => (fa env s).bind fun d s => (fb env s).bind fun e s => (match frzL d, frzL e with | some l, some m => .ok (zipL l m) s | _, _ => .fail)) := by
  obtain ⟨g1, g2, g3, g4⟩ := freeB_ok ok hf
  subst hy
  cases tg <;> first | (exact Bool.noConfusion (show false = true from ht)) | skip
  rename_i elts kk tpos
  have h0 := pi_zip (elts := elts) (kk := kk) (tpos := tpos) (p := p0) (pos := pos) g1 g2 (pa2 hp hq ha hb) (star_ok hp) (any_back (by simp [hq]))
  rw [ok.K] at h0
  refine h0.weak fun σ H Rr ⟨ρ, s, env, sr, er, g⟩ => ⟨ρ, s, env, sr, er, (Good.two g).imp fun vs H1 ⟨v, w, ρ1, s1, d, e, hv, ex, sr1, h1, h2, g1⟩ => ?_⟩
  subst hv
  cases e1 : frzL d with
  | none => rw [e1] at g1; exact g1.elim
  | some l =>
    cases e2 : frzL e with
    | none => rw [e1, e2] at g1; exact g1.elim
    | some m =>
      rw [e1, e2] at g1
      obtain ⟨a, xs, fs, rfl, rfl, hh⟩ := frz_ok e1 h1
      obtain ⟨b, ys, gs, rfl, rfl, kk⟩ := frz_ok e2 h2
      exact ⟨a, b, xs, ys, rfl, (hh _ _ _ Ex.refl sr1).1, (kk _ _ _ Ex.refl sr1).1, g1 ρ1 H1 _ Ex.refl sr1 (JR.zip fun ρ' s' H' ex' sr' => ⟨hh _ _ _ ex' sr', kk _ _ _ ex' sr'⟩)⟩
end rules
end JM

set_option autoImplicit false
/-! J13: comprehensions. -/
namespace JM
open PySem PySem.Spec PyProof.Rows L2

/-! ### the list that a comprehension lays is nobody's until it is whole -/
def Ro.hid (ρ : Ro) (D : Addr) : Ro := { ρ with hd := D :: ρ.hd }
def Ro.unh (ρ : Ro) (D : Addr) : Ro := { ρ with hd := ρ.hd.filter fun a => decide (a ≠ D) }
def Ro.own (ρ : Ro) (D : Addr) : Ro := { pl := ρ.pl ++ [some D], hd := ρ.hd.filter fun a => decide (a ≠ D) }
theorem Ex.hid {ρ : Ro} {H : Hp} {D : Addr} {o : HO} (hD : H D = none) : Ex ρ H (ρ.hid D) (upd H D o) :=
  ⟨Nat.le_refl _, fun _ _ => .inl rfl, fun _ h => .inl h, fun a u h _ => by rw [upd_ne (ne_of_none h hD)]; exact h, fun a h => by
    rcases List.mem_cons.mp h with h | h
    · subst h; exact .inr hD
    · exact .inl h, fun a h => List.mem_cons_of_mem _ h, fun a u h => ⟨u, by rw [upd_ne (ne_of_none h hD)]; exact h⟩⟩
theorem SR.hid {L : Lk} {ρ : Ro} {s : Sto} {H : Hp} {D : Addr} {o : HO} (r : SR L ρ s H) (hD : H D = none) : SR L (ρ.hid D) s (upd H D o) :=
  ⟨r.len, fun n a c h1 h2 => (r.cell n a c h1 h2).mono (Ex.hid hD) fun u hu => by rw [upd_ne (ne_of_none hu hD)]; exact hu, r.gone, r.inj, fun a h => by
    rcases List.mem_cons.mp h with h | h
    · subst h; exact ⟨o, upd_same⟩
    · exact hdom_upd r.hdom a h, fun a h hh => by
    rcases List.mem_cons.mp hh with z | z
    · subst z
      obtain ⟨u, e⟩ := r.dom h
      rw [hD] at e; cases e
    · exact r.hpl a h z⟩
mutual
theorem VF.re {K : PySem.W.Frag} {ρ ρ' : Ro} {H H' : Hp} (k : ∀ a o, H a = some o → ρ.no a → H' a = some o) (e : ∀ a, ρ.no a → ρ'.no a) : ∀ {d : F} {v : V}, VF K ρ H d v → VF K ρ' H' d v
  | .non, _, h => by simpa only [VF] using h
  | .bl _, _, h => by simpa only [VF] using h
  | .int _, _, h => by simpa only [VF] using h
  | .str _, _, h => by simpa only [VF] using h
  | .tup l, v, h => by
    simp only [VF] at h ⊢
    obtain ⟨a, xs, hv, ⟨hr, n⟩, hl, hs⟩ := h
    exact ⟨a, xs, hv, ⟨k _ _ hr n, e a n⟩, hl, VFs.re k e hs⟩
  | .ktup l, v, h => by
    simp only [VF] at h ⊢
    obtain ⟨a, xs, hv, hr, hl, hs⟩ := h
    exact ⟨a, xs, hv, hr, hl, VFs.re k e hs⟩
  | .lst l, v, h => by
    simp only [VF] at h ⊢
    obtain ⟨a, xs, hv, ⟨hr, n⟩, hl, hs⟩ := h
    exact ⟨a, xs, hv, ⟨k _ _ hr n, e a n⟩, hl, VFs.re k e hs⟩
  | .scr l, v, h => by
    simp only [VF] at h ⊢
    obtain ⟨a, hv, hr, hl⟩ := h
    refine ⟨a, hv, ?_, hl⟩
    rcases hr with ⟨hr, n⟩ | hr
    · refine .inl ⟨?_, e a n⟩
      rcases hr with hr | ⟨u, hr⟩
      · exact .inl (k _ _ hr n)
      · exact .inr ⟨u, k _ _ hr n⟩
    · exact .inr hr
  | .dct l, v, h => by
    simp only [VF] at h ⊢
    obtain ⟨a, xs, hv, ⟨⟨od, hr⟩, n⟩, hl, hs⟩ := h
    exact ⟨a, xs, hv, ⟨⟨od, k _ _ hr n⟩, e a n⟩, hl, VFk.re k e hs⟩
theorem VFs.re {K : PySem.W.Frag} {ρ ρ' : Ro} {H H' : Hp} (k : ∀ a o, H a = some o → ρ.no a → H' a = some o) (e : ∀ a, ρ.no a → ρ'.no a) : ∀ {d : List F} {v : List V}, VFs K ρ H d v → VFs K ρ' H' d v
  | [], _, h => by simpa only [VFs] using h
  | d :: ds, vs, h => by
    simp only [VFs] at h ⊢
    obtain ⟨v, r, hv, h1, h2⟩ := h
    exact ⟨v, r, hv, VF.re k e h1, VFs.re k e h2⟩
theorem VFk.re {K : PySem.W.Frag} {ρ ρ' : Ro} {H H' : Hp} (k : ∀ a o, H a = some o → ρ.no a → H' a = some o) (e : ∀ a, ρ.no a → ρ'.no a) : ∀ {d : List (Key × F)} {v : List (Key × V)}, VFk K ρ H d v → VFk K ρ' H' d v
  | [], _, h => by simpa only [VFk] using h
  | (x, d) :: ds, vs, h => by
    simp only [VFk] at h ⊢
    obtain ⟨v, r, hv, h1, h2⟩ := h
    exact ⟨v, r, hv, VF.re k e h1, VFk.re k e h2⟩
end
mutual
theorem VR.re {K : PySem.W.Frag} {ρ ρ' : Ro} {H H' : Hp} (k : ∀ a o, H a = some o → ρ.no a → H' a = some o) (hp : ∀ (n : Nat) x, ρ.pl[n]? = some x → ρ'.pl[n]? = some x) (e : ∀ a, ρ.no a → ρ'.no a) : ∀ {d : D} {v : V}, VR K ρ H d v → VR K ρ' H' d v
  | .f _, _, h => by
    simp only [VR] at h ⊢
    exact h.re k e
  | .tup l, v, h => by
    simp only [VR] at h ⊢
    obtain ⟨a, xs, hv, ⟨hr, n⟩, hl, hs⟩ := h
    exact ⟨a, xs, hv, ⟨k _ _ hr n, e a n⟩, hl, VRs.re k hp e hs⟩
  | .loc n, v, h => by
    simp only [VR] at h ⊢
    rcases h with h | ⟨a, h, hv⟩
    · exact .inl (hp _ _ h)
    · exact .inr ⟨a, hp _ _ h, hv⟩
theorem VRs.re {K : PySem.W.Frag} {ρ ρ' : Ro} {H H' : Hp} (k : ∀ a o, H a = some o → ρ.no a → H' a = some o) (hp : ∀ (n : Nat) x, ρ.pl[n]? = some x → ρ'.pl[n]? = some x) (e : ∀ a, ρ.no a → ρ'.no a) : ∀ {d : List D} {v : List V}, VRs K ρ H d v → VRs K ρ' H' d v
  | [], _, h => by simpa only [VRs] using h
  | d :: ds, vs, h => by
    simp only [VRs] at h ⊢
    obtain ⟨v, r, hv, h1, h2⟩ := h
    exact ⟨v, r, hv, VR.re k hp e h1, VRs.re k hp e h2⟩
end
section re
variable {K : PySem.W.Frag} {ρ ρ' : Ro} {H H' : Hp} (k : ∀ a o, H a = some o → ρ.no a → H' a = some o) (hp : ∀ (n : Nat) x, ρ.pl[n]? = some x → ρ'.pl[n]? = some x) (e : ∀ a, ρ.no a → ρ'.no a)
include k hp e
theorem VL.re {l : List D} {xs : List V} (h : VL K ρ H l xs) : VL K ρ' H' l xs := Paired.mapP h fun _ _ z => VR.re k hp e z
theorem KVR.re {κ : Type} {l : List (κ × D)} {xs : List (κ × V)} (h : KVR (VR K ρ H) l xs) : KVR (VR K ρ' H') l xs := Paired.mapP h fun _ _ z => ⟨z.1, VR.re k hp e z.2⟩
end re
theorem CellR.re {L : Lk} {ρ ρ' : Ro} {H H' : Hp} {a : Addr} {c : Cell} (k : ∀ a o, H a = some o → ρ.no a → H' a = some o) (ka : ∀ o, H a = some o → H' a = some o) (hp : ∀ (n : Nat) x, ρ.pl[n]? = some x → ρ'.pl[n]? = some x) (e : ∀ a, ρ.no a → ρ'.no a) (h : CellR L ρ H a c) : CellR L ρ' H' a c := by
  cases c with
  | dead => exact h
  | lst l => obtain ⟨xs, h, q⟩ := h; exact ⟨xs, ka _ h, VL.re k hp e q⟩
  | dK l => obtain ⟨xs, h, q⟩ := h; exact ⟨xs, ka _ h, KVR.re k hp e q⟩
  | dT l => obtain ⟨xs, h, q⟩ := h; exact ⟨xs, ka _ h, KVR.re k hp e q⟩
  | ins c l => obtain ⟨dx, xs, h, q, z⟩ := h; exact ⟨dx, xs, ka _ h, VL.re k hp e q, z⟩
/-- a hidden object is written -/
theorem hid_keep {ρ : Ro} {H : Hp} {D : Addr} {o : HO} (hD : D ∈ ρ.hd) : ∀ a u, H a = some u → ρ.no a → (upd H D o) a = some u := fun a u h n => by
  rw [upd_ne (fun z => by subst z; exact n.2 hD)]; exact h
theorem SR.hidW {L : Lk} {ρ : Ro} {s : Sto} {H : Hp} {D : Addr} {o : HO} (r : SR L ρ s H) (hD : D ∈ ρ.hd) : SR L ρ s (upd H D o) :=
  ⟨r.len, fun n a c h1 h2 => (r.cell n a c h1 h2).re (hid_keep hD) (fun u hu => by
    rw [upd_ne (fun z => by subst z; exact r.hpl _ (List.mem_of_getElem? h1) hD)]; exact hu) (fun _ _ h => h) fun _ h => h, r.gone, r.inj, hdom_upd r.hdom, r.hpl⟩
section fin
variable {L : Lk} {ρ1 ρ : Ro} {s1 s : Sto} {H1 H : Hp} {D : Addr}
theorem unh_no {a : Addr} (n : ρ.no a) : (ρ.unh D).no a := ⟨n.1, fun z => n.2 (List.mem_filter.mp z).1⟩
theorem own_no {a : Addr} (hD : D ∈ ρ.hd) (n : ρ.no a) : (ρ.own D).no a := ⟨fun z => by
  rcases List.mem_append.mp (show some a ∈ ρ.pl ++ [some D] from z) with z | z
  · exact n.1 z
  · simp at z; subst z; exact n.2 hD, fun z => n.2 (List.mem_filter.mp z).1⟩
theorem own_pl {n : Nat} {x : Option Addr} (h : ρ.pl[n]? = some x) : (ρ.own D).pl[n]? = some x := by
  show (ρ.pl ++ [some D])[n]? = _
  rw [List.getElem?_append_left (List.getElem?_eq_some_iff.mp h).1]; exact h
theorem Ex.unh (r1 : SR L ρ1 s1 H1) (h1 : H1 D = none) (e : Ex ρ1 H1 ρ H) : Ex ρ1 H1 (ρ.unh D) H :=
  ⟨e.len, e.ent, e.new, e.keep, fun a h => e.hd a (List.mem_filter.mp h).1, fun a h => List.mem_filter.mpr ⟨e.hk a h, by
    obtain ⟨o, z⟩ := r1.hdom a h
    simpa using fun q : a = D => by subst q; rw [h1] at z; cases z⟩, e.dom⟩
theorem Ex.own (r1 : SR L ρ1 s1 H1) (h1 : H1 D = none) (e : Ex ρ1 H1 ρ H) : Ex ρ1 H1 (ρ.own D) H :=
  ⟨by show _ ≤ (ρ.pl ++ [some D]).length; rw [List.length_append]; exact Nat.le_trans e.len (Nat.le_add_right _ _), fun n hn => by
    show (ρ.pl ++ [some D])[n]? = _ ∨ (ρ.pl ++ [some D])[n]? = _
    rw [List.getElem?_append_left (Nat.lt_of_lt_of_le hn e.len)]
    exact e.ent n hn, fun a h => by
    rcases List.mem_append.mp (show some a ∈ ρ.pl ++ [some D] from h) with h | h
    · exact e.new a h
    · simp at h; subst h; exact .inr h1, e.keep, fun a h => e.hd a (List.mem_filter.mp h).1, fun a h => List.mem_filter.mpr ⟨e.hk a h, by
    obtain ⟨o, z⟩ := r1.hdom a h
    simpa using fun q : a = D => by subst q; rw [h1] at z; cases z⟩, e.dom⟩
theorem SR.unh (r : SR L ρ s H) : SR L (ρ.unh D) s H :=
  ⟨r.len, fun n a c h1 h2 => CellR.re (ρ := ρ) (ρ' := ρ.unh D) (fun _ _ h _ => h) (fun _ h => h) (fun _ _ h => h) (fun a n => unh_no n) (r.cell n a c h1 h2), r.gone, r.inj, fun a h => r.hdom a (List.mem_filter.mp h).1, fun a h hh => r.hpl a h (List.mem_filter.mp hh).1⟩
theorem SR.own (r : SR L ρ s H) (hD : D ∈ ρ.hd) {c : Cell} (hc : CellR L (ρ.own D) H D c) : SR L (ρ.own D) (s ++ [c]) H := by
  have pa : (ρ.own D).pl = ρ.pl ++ [some D] := rfl
  have nD : some D ∉ ρ.pl := fun z => r.hpl D z hD
  refine ⟨by simp [pa, r.len], fun n a c' h1 h2 => ?_, fun n h => ?_, fun n m a h1 h2 => ?_, fun a h => r.hdom a (List.mem_filter.mp h).1, fun a h hh => ?_⟩
  · rw [pa] at h1
    by_cases hn : n < ρ.pl.length
    · rw [List.getElem?_append_left hn] at h1
      rw [List.getElem?_append_left (by rw [← r.len]; exact hn)] at h2
      exact (r.cell n a c' h1 h2).re (fun _ _ h _ => h) (fun _ h => h) (fun _ _ h => own_pl h) fun a n => own_no hD n
    · rw [List.getElem?_append_right (by omega)] at h1
      rw [List.getElem?_append_right (by rw [← r.len]; omega), ← r.len] at h2
      cases e : n - ρ.pl.length with
      | zero => rw [e] at h1 h2; simp at h1 h2; subst h1; subst h2; exact hc
      | succ k => rw [e] at h1; simp at h1
  · rw [pa] at h
    by_cases hn : n < ρ.pl.length
    · rw [List.getElem?_append_left hn] at h
      rw [List.getElem?_append_left (by rw [← r.len]; exact hn)]
      exact r.gone n h
    · rw [List.getElem?_append_right (by omega)] at h
      cases e : n - ρ.pl.length with
      | zero => rw [e] at h; simp at h
      | succ k => rw [e] at h; simp at h
  · have key : ∀ k : Nat, (ρ.own D).pl[k]? = some (some a) → (ρ.pl[k]? = some (some a)) ∨ (k = ρ.pl.length ∧ a = D) := fun k hk => by
      rw [pa] at hk
      by_cases hn : k < ρ.pl.length
      · rw [List.getElem?_append_left hn] at hk; exact .inl hk
      · rw [List.getElem?_append_right (by omega)] at hk
        cases e : k - ρ.pl.length with
        | zero => rw [e] at hk; simp at hk; exact .inr ⟨by omega, hk.symm⟩
        | succ j => rw [e] at hk; simp at hk
    rcases key n h1 with q1 | ⟨q1, e1⟩ <;> rcases key m h2 with q2 | ⟨q2, e2⟩
    · exact r.inj n m a q1 q2
    · subst e2; exact absurd (List.mem_of_getElem? q1) nD
    · subst e1; exact absurd (List.mem_of_getElem? q2) nD
    · omega
  · obtain ⟨z1, z2⟩ := List.mem_filter.mp hh
    rcases List.mem_append.mp (show some a ∈ ρ.pl ++ [some D] from h) with h | h
    · exact r.hpl a h z1
    · simp at h; subst h; simp at z2
end fin

/-! ### targets over forgotten slots -/
theorem setσ_same : ∀ {is : List Nat} {xs : List V} {σ τ : L2.St}, xs.length = is.length → σ.length = τ.length → (∀ j : Nat, j ∉ is → σ[j]? = τ[j]?) → setσ is xs σ = setσ is xs τ
  | [], xs, σ, τ, hl, hn, h => by
    have : xs = [] := List.length_eq_zero_iff.mp hl
    subst this
    show σ = τ
    exact List.ext_getElem? fun j => h j (by simp)
  | i :: is, [], σ, τ, hl, hn, h => by cases hl
  | i :: is, x :: xs, σ, τ, hl, hn, h => by
    unfold setσ
    rw [List.zip_cons_cons, List.foldl_cons, List.foldl_cons]
    refine setσ_same (is := is) (xs := xs) (by simpa using hl) (by simp [hn]) fun j hj => ?_
    by_cases e : i = j
    · subst e
      rw [List.getElem?_set, List.getElem?_set]
      simp only [if_true, hn]
    · rw [List.getElem?_set_ne e, List.getElem?_set_ne e]
      exact h j fun z => by
        rcases List.mem_cons.mp z with z | z
        · exact e z.symm
        · exact hj z
theorem gPat_okW {L : Lk} {ρ : Ro} {H : Hp} {s : Sto} {p : Pat} {d : D} {v : V} {env env' : Env'} {σ : L2.St} {Q : L2.St → Hp → Prop} (e : bindP p d s env = some env') (h : VR L.K ρ H d v) (er : ER L.K ρ H env σ)
    (q : ∀ σ', ER L.K ρ H env' σ' → wipe σ' p.slots = wipe σ p.slots → Q σ' H) : gPat L.K p v (wipe σ p.slots) H Q := by
  cases p with
  | one i =>
    cases e
    show Q ((wipe σ [i]).set i (some v)) H
    have : (wipe σ [i]).set i (some v) = σ.set i (some v) := by
      show (σ.set i none).set i (some v) = _
      rw [List.set_set]
    rw [this]
    exact q _ (er.set h) (wipe_set (by simp [Pat.slots]))
  | tup is =>
    unfold bindP at e
    simp only at e
    split at e
    · rename_i l hl
      split at e
      · rename_i hn
        cases e
        obtain ⟨a, xs, rfl, hx, pl, _⟩ := seqT_ok hl h
        have hxl : xs.length = is.length := by rw [← pl.length]; exact hn
        refine ⟨a, xs, rfl, hx, hxl, ?_⟩
        have : setσ is xs (wipe σ is) = setσ is xs σ := setσ_same hxl (wipe_length σ is) fun j hj => wipe_get hj
        show Q (setσ is xs (wipe σ is)) H
        rw [this]
        exact q _ (er.setL pl) (wipe_setσ fun i hi => hi)
      · cases e
    · cases e

/-! ### the comprehension -/
theorem noexc_bind {α β γ : Type} {L : Lk} {rel : Ro → Hp → β → γ → Prop} {W : Nat → Hp → Prop} {ρ : Ro} {H : Hp} {Q : γ → Hp → Prop} {r : R α} {k : α → Sto → R β} (g : Good L rel W ρ H Q (noexc (r.bind k))) : ∃ a s, r = .ok a s ∧ Good L rel W ρ H Q (noexc (k a s)) := by
  cases r with
  | ok a s => exact ⟨a, s, rfl, g⟩
  | exc x s => exact g.elim
  | fail => exact g.elim
theorem R.bind_assoc {α β γ : Type} (r : R α) (f : α → Sto → R β) (g : β → Sto → R γ) : (r.bind f).bind g = r.bind fun a s => (f a s).bind g := by
  cases r <;> rfl
def turnF (c : Option (Env' → Sto → R D)) (fe : Env' → Sto → R D) (env : Env') (s : Sto) : R (Option D) := match c with
  | none => (fe env s).bind fun d s => .ok (some d) s
  | some fc => (fc env s).bind fun b s => (match b with
    | .f (.bl true) => (fe env s).bind fun d s => .ok (some d) s
    | .f (.bl false) => .ok none s
    | _ => .fail)
def lcR (fi : Env' → Sto → R (List D)) (m : Bool) (p : Pat) (c : Option (Env' → Sto → R D)) (fe : Env' → Sto → R D) (env : Env') (s : Sto) : R D :=
  noexc ((fi env s).bind fun items s => (mapR (fun x s => match bindP p x s env with | some env' => turnF c fe env' s | none => .fail) items s).bind fun ys s => newL m ys s)
def nW : WX := fun _ _ _ _ => False
def tcC (L : Lk) : Option (Env' → Sto → R D) → TT
  | none => tYes
  | some fc => rTT L nW fc
theorem lc_read {L : Lk} {W : WX} {fi : Env' → Sto → R (List D)} {m : Bool} {p : Pat} {c : Option (Env' → Sto → R D)} {fe : Env' → Sto → R D} {σ : L2.St} {H : Hp} {Q : VK}
    (h : rTE L W (lcR fi m p c fe) σ H Q) : tLc (rTI L W fi) (gPat L.K p) (tcC L c) (rTE L nW fe) p.slots σ H Q := by
  obtain ⟨ρ, s, env, sr, er, g⟩ := h
  obtain ⟨items, s1, ei, g1⟩ := noexc_bind g
  refine ⟨ρ, s, env, sr, er, ?_⟩
  rw [ei]
  intro ρ1 H1 J ex1 sr1 jr D hD
  have g2 := Good.later g1 ex1
  have er1 := er.mono ex1
  generalize hf : (fun (x : JM.D) (s : Sto) => match bindP p x s env with | some env' => turnF c fe env' s | none => .fail) = f at g2
  let P : Nat → Hp → Prop := fun i H' => ∃ ρ' s' acc xs, Ex ρ1 H1 ρ' H' ∧ SR L ρ' s' H' ∧ D ∈ ρ'.hd ∧ H' D = some (.lst xs) ∧ VL L.K ρ' H' acc xs ∧
    Good L (VR L.K) (wx L W σ) ρ1 H1 Q (noexc ((mapR f (items.drop i) s').bind fun ys s => newL m (acc ++ ys) s))
  refine ⟨fun i m H' => m = items.length - i ∧ i ≤ items.length ∧ P i H', ⟨items.length, rfl, Nat.zero_le _, ρ1.hid D, s1, [], [], Ex.hid hD, sr1.hid hD, List.mem_cons_self, upd_same, .nil, g2⟩, ?_⟩
  rintro i k H' ⟨rfl, hi, ρ', s', acc, xs, ex', sr', hDm, hDv, pv, g3⟩
  obtain ⟨jr1, jr2⟩ := jr ρ' s' H' ex' sr' i
  have nDp : some D ∉ ρ'.pl := fun z => sr'.hpl D z hDm
  by_cases hlt : i < items.length
  · have hd : items[i]? = some items[i] := by simp [hlt]
    obtain ⟨hgo, hy⟩ := jr1 _ hd
    rw [List.drop_eq_getElem_cons hlt] at g3
    refine .inr ⟨hgo, P (i + 1), fun H2 h => ⟨items.length - (i + 1), by omega, rfl, hlt, h⟩, fun x H2 y => ?_⟩
    obtain ⟨ex2, sr2, vr2⟩ := hy x H2 y
    unfold mapR at g3
    rw [R.bind_assoc] at g3
    obtain ⟨o, s2, eo, g4⟩ := noexc_bind g3
    rw [R.bind_assoc] at g4
    have ef : f items[i] s' = (match bindP p items[i] s' env with | some env' => turnF c fe env' s' | none => .fail) := by rw [← hf]
    rw [ef] at eo
    cases bp : bindP p items[i] s' env with
    | none => rw [bp] at eo; cases eo
    | some env' =>
      rw [bp] at eo
      simp only at eo
      have hlen : ∀ y, o = some y → acc.length < sizeLine := fun y ey => by
        subst ey
        obtain ⟨ys, s3, _, g5⟩ := noexc_bind g4
        simp only [R.bind_ok] at g5
        unfold newL at g5
        split at g5
        · rename_i hh
          rw [List.length_append, List.length_cons] at hh
          omega
        · exact g5.elim
      refine gPat_okW bp vr2 ((er1.mono ex').mono ex2) fun σ' er' hw => ⟨hw, ?_⟩
      -- an item's value
      have item : ∀ {s0 : Sto} {ρ3 : Ro} {H3 : Hp}, Ex ρ' H' ρ3 H3 → SR L ρ3 s0 H3 → ER L.K ρ3 H3 env' σ' → ((fe env' s0).bind fun d s => .ok (some d) s) = .ok o s2 →
          rTE L nW fe σ' H3 fun y H4 => ∃ acc, H4 D = some (.lst acc) ∧ acc.length < sizeLine ∧ P (i + 1) (upd H4 D (.lst (acc ++ [y]))) := fun {s0 ρ3 H3} ex3 sr3 er3 e3 => by
        cases q : fe env' s0 with
        | exc x s => rw [q] at e3; cases e3
        | fail => rw [q] at e3; cases e3
        | ok y s3 =>
          rw [q] at e3
          simp only [R.bind_ok, R.ok.injEq] at e3
          obtain ⟨e3, e4⟩ := e3
          subst e4
          refine ⟨ρ3, s0, env', sr3, er3, ?_⟩
          rw [q]
          intro ρ4 H4 v ex4 sr4 hv
          have ex34 := ex3.trans ex4
          have hD4 : H4 D = some (.lst xs) := ex34.keep _ _ hDv nDp
          have hDm4 : D ∈ ρ4.hd := ex34.hk _ hDm
          have hl := hlen y e3.symm
          refine ⟨xs, hD4, by rw [← pv.length]; exact hl, ρ4, s3, acc ++ [y], xs ++ [v], ?_, ?_, hDm4, upd_same, ?_, ?_⟩
          · have z := ex'.trans ex34
            · refine ⟨z.len, z.ent, z.new, fun a u ha hn => ?_, z.hd, z.hk, fun a u ha => ?_⟩
              · rw [upd_ne (ne_of_none ha hD)]; exact z.keep a u ha hn
              · obtain ⟨w, hw⟩ := z.dom a u ha
                exact ⟨w, by rw [upd_ne (ne_of_none ha hD)]; exact hw⟩
          · exact sr4.hidW hDm4
          · exact (VL.re (hid_keep hDm4) (fun _ _ h => h) (fun _ h => h) (pv.mono ex34)).snoc (VR.re (hid_keep hDm4) (fun _ _ h => h) (fun _ h => h) hv)
          · subst e3
            simp only [List.append_assoc]
            have e5 : (fun ys (s : Sto) => newL m (acc ++ ([y] ++ ys)) s) = fun ys s => (R.ok (y :: ys) s).bind fun ys s => newL m (acc ++ ys) s := rfl
            rw [e5]
            exact g4
      cases c with
      | none =>
        simp only [tcC, tYes, if_true]
        exact item ex2 sr2 er' eo
      | some fc =>
        simp only [turnF] at eo
        cases qc : fc env' s' with
        | exc x s => rw [qc] at eo; cases eo
        | fail => rw [qc] at eo; cases eo
        | ok b s3 =>
          rw [qc] at eo
          simp only [R.bind_ok] at eo
          refine ⟨ρ', s', env', sr2, er', ?_⟩
          rw [qc]
          split at eo
          · exact fun ρ4 H4 ex4 sr4 => iteT (item (ex2.trans ex4) sr4 (er'.mono ex4) eo)
          · cases eo
            refine fun ρ4 H4 ex4 sr4 => iteF ⟨ρ4, s2, acc, xs, (ex'.trans ex2).trans ex4, sr4, (ex2.trans ex4).hk _ hDm, (ex2.trans ex4).keep _ _ hDv nDp, pv.mono (ex2.trans ex4), ?_⟩
            exact g4
          · cases eo
  · have e : i = items.length := by omega
    subst e
    refine .inl ⟨jr2 (Nat.le_refl _), ?_⟩
    rw [List.drop_length] at g3
    simp only [mapR, R.bind_ok, List.append_nil] at g3
    unfold newL at g3
    split at g3
    · rename_i hl
      cases m with
      | true =>
        simp only [if_true, noexc] at g3
        have hn : (ρ'.own D).pl[s'.length]? = some (some D) := by
          show (ρ'.pl ++ [some D])[s'.length]? = _
          rw [List.getElem?_append_right (by rw [sr'.len]; exact Nat.le_refl _), sr'.len, Nat.sub_self]; rfl
        exact g3 (ρ'.own D) H' (.ref D) (Ex.own sr1 hD ex') (sr'.own hDm ⟨xs, hDv, VL.re (fun _ _ h _ => h) (fun _ _ h => own_pl h) (fun a n => own_no hDm n) pv⟩) (VR.loc_iff.mpr (.inr ⟨D, hn, rfl⟩))
      | false =>
        simp only [Bool.false_eq_true, if_false] at g3
        cases ea : allF acc with
        | none => rw [ea] at g3; exact g3.elim
        | some fs =>
          rw [ea] at g3
          simp only [noexc] at g3
          rw [allF_eq ea] at pv hl
          rw [List.length_map] at hl
          refine g3 (ρ'.unh D) H' (.ref D) (Ex.unh sr1 hD ex') sr'.unh (VR.f_iff.mpr (VF.lst_iff.mpr ⟨D, xs, rfl, ⟨hDv, nDp, fun z => ?_⟩, hl, (VL.toFL pv).hide fun a n => unh_no n⟩))
          have := (List.mem_filter.mp z).2
          simp at this
    · exact g3.elim
end JM

set_option autoImplicit false
/-! J14: every expression that is matched does what it means. -/
namespace JM
open PySem PySem.Spec PyProof.Rows L2

/-! ### targets -/
def gsN : List Nat → TGs
  | [] => gNil
  | i :: is => gCons (gName i) (gsN is)
theorem gsN_ok : ∀ {is : List Nat} {xs : List V} {σ : L2.St} {H : Hp} {Q : L2.St → Hp → Prop}, xs.length = is.length → Q (setσ is xs σ) H → gsN is xs σ H Q
  | [], xs, σ, H, Q, hl, q => by
    have : xs = [] := List.length_eq_zero_iff.mp hl
    subst this
    exact ⟨rfl, q⟩
  | i :: is, [], σ, H, Q, hl, q => by cases hl
  | i :: is, x :: xs, σ, H, Q, hl, q => ⟨x, xs, rfl, gsN_ok (is := is) (by simpa using hl) q⟩
section targets
variable {X : Cx} {sc : Scope} {fnb : Str → Bool}
theorem locB_ok {x : Str} (hs : X.env.scope = sc) (fnl : ∀ x, fnb x = true → X.fn x = true) (h : locB sc fnb x = true) : Loc X.env.scope x ∧ (X.fn x = true ∨ X.env.scope.names.lookup x = some .local) := by
  unfold locB at h
  rw [hs]
  split at h
  · exact ⟨.inl (by assumption), .inr (by assumption)⟩
  · exact ⟨.inr (by assumption), .inl (fnl _ h)⟩
  · cases h
theorem mPs_ok (nd : X.N.Nodup) (hs : X.env.scope = sc) (fnl : ∀ x, fnb x = true → X.fn x = true) : ∀ {is : List Nat} {es : List Expr}, mPs X.N sc fnb is es = true →
    PGs X es (gsN is) ∧ (assignEach es X.env).length = is.length ∧ (assignEach es X.env).findIdx? (·.1) = none
  | [], es, h => by
    unfold mPs at h
    split at h
    · exact ⟨pgs_nil, rfl, rfl⟩
    · exact absurd ‹[] = _ :: _› (by simp)
    · cases h
  | i :: is, es, h => by
    unfold mPs at h
    split at h
    · rename_i hh; cases hh
    · rename_i i' is' x p es' hh
      cases hh
      simp only [Bool.and_eq_true] at h
      obtain ⟨⟨h1, h2⟩, h3⟩ := h
      obtain ⟨a, b, c⟩ := mPs_ok nd hs fnl h3
      obtain ⟨l1, l2⟩ := locB_ok hs fnl h2
      refine ⟨pgs_cons (pg_name nd (nmB_ok h1) l1 l2) a, ?_, ?_⟩
      · show (assignEach es' X.env).length + 1 = _
        rw [b]; rfl
      · show List.findIdx? (·.1) ((false, assign (.Name x p) X.env) :: assignEach es' X.env) = none
        rw [List.findIdx?_cons, c]
        rfl
    · cases h
theorem mP_ok (hc : X.calm = true) (nd : X.N.Nodup) (hs : X.env.scope = sc) (fnl : ∀ x, fnb x = true → X.fn x = true) {p : Pat} {tg : Expr} (h : mP X.N sc fnb p tg = true) : PG X tg (gPat X.K p) := by
  cases p with
  | one i =>
    unfold mP at h
    split at h
    · rename_i i' x q hh
      cases hh
      simp only [Bool.and_eq_true] at h
      obtain ⟨l1, l2⟩ := locB_ok hs fnl h.2
      exact pg_name nd (nmB_ok h.1) l1 l2
    · rename_i hh; cases hh
    · cases h
  | tup is =>
    unfold mP at h
    split at h
    · rename_i hh; cases hh
    · rename_i is' es k q hh
      cases hh
      obtain ⟨a, b, c⟩ := mPs_ok nd hs fnl h
      have pg := pg_tup (pos := q) (k := k) (n := is.length) hc a b c
      refine ⟨fun pins s σ H v u Q I r hw => pg.run pins s σ H v u Q I r ?_⟩
      obtain ⟨a', xs, e, hx, hl, q⟩ := hw
      exact ⟨a', xs, e, hx, hl, gsN_ok hl q⟩
    · cases h
end targets
theorem takes_nW {X : Cx} : Takes X nW := fun _ _ ⟨_, _, _, _, _, _, _, _, _, _, _, _, _, _, _, _, w⟩ => w.elim
section rules
variable {St : Stat} {T : Tb} {L : Lk} {fad : Nat → Addr} {n : Nat} {X : Cx} {sc : Scope} {fnb : Str → Bool} {W : WX}
/-- a comprehension's block -/
theorem XOk.blk (ok : XOk St T L fad n X sc fnb W) {s : Shared} {H : Hp} {scope : Scope} {cl : List (Str × Addr)} {C : Addr} {fp : List Addr} :
    XOk St T L fad n (X.blk s H scope (compEnvC scope cl C X.env) fp) (relS scope sc) (fun y => scope.names.lookup y == some .cell) nW where
  K := ok.K
  lk := ok.lk
  fns := ok.fns
  mks := ok.mks
  nd := ok.nd
  sc := by
    have := ok.sc
    show relabel scope X.env = _
    subst this
    rfl
  calm := ok.calm
  room := ok.room
  tk := takes_nW
  fnl := fun x h => h
theorem r_lc (ok : XOk St T L fad n X sc fnb W) {m : Bool} {p : Pat} {c : Option (Env' → Sto → R D)} {fe : Env' → Sto → R D} {fi : Env' → Sto → R (List D)} {elt tg iter : Expr} {ifs : List Expr} {scope : Scope} {own : List (Str × Nat)} {pos : Pos}
    (hi : PI X tg iter (rTI L W fi)) (bok : BlkOk X.N X.env.scope scope own) (hv : own.map (·.2) = p.slots)
    (hg : ∀ (s : Shared) (H : Hp) (C : Addr) (cl : List (Str × Addr)) (fp : List Addr), PG (X.blk s H scope (compEnvC scope cl C X.env) fp) tg (gPat L.K p))
    (ht : ∀ (s : Shared) (H : Hp) (C : Addr) (cl : List (Str × Addr)) (fp : List Addr), PTs (X.blk s H scope (compEnvC scope cl C X.env) fp) ifs (tcC L c))
    (he : ∀ (s : Shared) (H : Hp) (C : Addr) (cl : List (Str × Addr)) (fp : List Addr), PE (X.blk s H scope (compEnvC scope cl C X.env) fp) elt (rTE L nW fe)) (hs : okE iter = true) :
    PE X (.ListComp elt [⟨tg, iter, ifs, 0⟩] scope pos) (rTE L W (lcR fi m p c fe)) :=
  (pe_lc ok.calm ok.nd hi bok hg ht he (fold_ok hs)).weak fun σ H Q h => by rw [hv]; exact lc_read h
end rules
theorem own_slots {N : List Str} {p : Pat} : (ownOf N p).map (·.2) = p.slots := by
  unfold ownOf
  rw [List.map_map]
  exact List.map_id' _

/-! ### all of them -/
section all
variable {St : Stat} {T : Tb} {L : Lk} {fad : Nat → Addr} {n : Nat}
theorem all_okE {N : List Str} {sc : Scope} {fnb : Str → Bool} : ∀ {l : List E} {xs : List Expr}, mEs St N l sc fnb xs = true → xs.all okE = true
  | [], xs, h => by
    unfold mEs at h
    cases xs with
    | nil => rfl
    | cons x xs => cases h
  | e :: l, xs, h => by
    unfold mEs at h
    cases xs with
    | nil => cases h
    | cons x xs =>
      simp only [Bool.and_eq_true] at h
      rw [List.all_cons, mE_ok h.1, all_okE h.2]; rfl
theorem mEs_len {N : List Str} {sc : Scope} {fnb : Str → Bool} : ∀ {l : List E} {xs : List Expr}, mEs St N l sc fnb xs = true → xs.length = l.length
  | [], xs, h => by
    unfold mEs at h
    cases xs with
    | nil => rfl
    | cons x xs => cases h
  | e :: l, xs, h => by
    unfold mEs at h
    cases xs with
    | nil => cases h
    | cons x xs =>
      simp only [Bool.and_eq_true] at h
      rw [List.length_cons, List.length_cons, mEs_len h.2]
theorem rTE_eq {W : WX} {X : Cx} {x : Expr} {f g : Env' → Sto → R D} (h : PE X x (rTE L W f)) (e : ∀ env s, g env s = f env s) : PE X x (rTE L W g) := by
  have : g = f := by funext env s; exact e env s
  rw [this]; exact h
def SE (St : Stat) (T : Tb) (L : Lk) (fad : Nat → Addr) (n : Nat) (e : E) : Prop := ∀ {X : Cx} {sc : Scope} {fnb : Str → Bool} {W : WX} {x : Expr}, XOk St T L fad n X sc fnb W → mE St X.N e sc fnb x = true →
  PE X x (rTE L W (evE (callF T n) (callM T n) e)) ∧ (notIte e = true → PT X x (rTT L W (evE (callF T n) (callM T n) e)))
def SEs (St : Stat) (T : Tb) (L : Lk) (fad : Nat → Addr) (n : Nat) (l : List E) : Prop := ∀ {X : Cx} {sc : Scope} {fnb : Str → Bool} {W : WX} {xs : List Expr}, XOk St T L fad n X sc fnb W → mEs St X.N l sc fnb xs = true →
  PA X xs (rTA L W (evEs (callF T n) (callM T n) l)) ∧ (l ≠ [] → ∀ pos, PE X (.BoolOp .And xs pos) (rTE L W (evAnd (callF T n) (callM T n) l)) ∧ PE X (.BoolOp .Or xs pos) (rTE L W (evOr (callF T n) (callM T n) l)) ∧
    (l.all notIte = true → PW X (.BoolOp .And xs pos) (rTT L W (evAnd (callF T n) (callM T n) l)) ∧ PW X (.BoolOp .Or xs pos) (rTT L W (evOr (callF T n) (callM T n) l))))
def SO (St : Stat) (T : Tb) (L : Lk) (fad : Nat → Addr) (n : Nat) (e : Option E) : Prop := ∀ {X : Cx} {sc : Scope} {fnb : Str → Bool} {W : WX} {x : Option Expr}, XOk St T L fad n X sc fnb W → mO St X.N e sc fnb x = true →
  PO X x (rTO L W (evO (callF T n) (callM T n) e))
def SOE (St : Stat) (T : Tb) (L : Lk) (fad : Nat → Addr) (n : Nat) (e : Option E) : Prop := ∀ e', e = some e' → SE St T L fad n e'
def SI (St : Stat) (T : Tb) (L : Lk) (fad : Nat → Addr) (n : Nat) (e : It) : Prop := ∀ {X : Cx} {sc : Scope} {fnb : Str → Bool} {W : WX} {tg x : Expr}, XOk St T L fad n X sc fnb W → mIt St X.N e sc fnb tg x = true →
  PI X tg x (rTI L W (evIt (callF T n) (callM T n) e)) ∧ okE x = true
end all
end JM

set_option autoImplicit false
/-! J15: every expression that is matched does what it means. -/
namespace JM
open PySem PySem.Spec PyProof.Rows L2
section all
variable {St : Stat} {T : Tb} {L : Lk} {fad : Nat → Addr} {n : Nat}
theorem viaTest {X : Cx} {W : WX} {p : Expr} {f : Env' → Sto → R D} {b : Prop} (hp : okE p = true) (hk : (match p with | .UnaryOp .Not _ _ => false | .BoolOp .. => false | .IfExp .. => false | .Compare .. => false | _ => true) = true) (h : PE X p (rTE L W f)) : PE X p (rTE L W f) ∧ (b → PT X p (rTT L W f)) := ⟨h, fun _ => r_test hp hk h⟩
theorem s_k (d : F) : SE St T L fad n (.k d) := by
  (intro X sc fnb W x ok h; unfold mE at h; split at h <;> first | (cases h; done) | skip; all_goals (try simp only [Bool.and_eq_true, Bool.not_eq_true', decide_eq_true_eq] at h))
  exact viaTest rfl rfl (r_k h)
theorem s_g (y : Str) (d : F) : SE St T L fad n (.g y d) := by
  (intro X sc fnb W x ok h; unfold mE at h; split at h <;> first | (cases h; done) | skip; all_goals (try simp only [Bool.and_eq_true, Bool.not_eq_true', decide_eq_true_eq] at h))
  obtain ⟨⟨h1, h2⟩, h3⟩ := h
  subst h1
  exact viaTest rfl rfl (r_g ok h2 h3)
theorem s_v (i : Nat) : SE St T L fad n (.v i) := by
  (intro X sc fnb W x ok h; unfold mE at h; split at h <;> first | (cases h; done) | skip; all_goals (try simp only [Bool.and_eq_true, Bool.not_eq_true', decide_eq_true_eq] at h))
  exact viaTest rfl rfl (r_v ok.sc h.1 h.2)
theorem s_bin (o : BO) (a b : E) (ha : SE St T L fad n a) (hb : SE St T L fad n b) : SE St T L fad n (.bin o a b) := by
  (intro X sc fnb W x ok h; unfold mE at h; split at h <;> first | (cases h; done) | skip; all_goals (try simp only [Bool.and_eq_true, Bool.not_eq_true', decide_eq_true_eq] at h))
  obtain ⟨⟨h1, h2⟩, h3⟩ := h
  subst h1
  exact viaTest rfl rfl (r_bin ok o (ha ok h2).1 (hb ok h3).1)
theorem s_neg (a : E) (ha : SE St T L fad n a) : SE St T L fad n (.neg a) := by
  (intro X sc fnb W x ok h; unfold mE at h; split at h <;> first | (cases h; done) | skip; all_goals (try simp only [Bool.and_eq_true, Bool.not_eq_true', decide_eq_true_eq] at h))
  obtain ⟨h1, h2⟩ := h
  subst h1
  exact viaTest rfl rfl (r_neg (ha ok h2).1)
theorem s_cmp (o : CO) (a b : E) (ha : SE St T L fad n a) (hb : SE St T L fad n b) : SE St T L fad n (.cmp o a b) := by
  (intro X sc fnb W x ok h; unfold mE at h; split at h <;> first | (cases h; done) | skip; all_goals (try simp only [Bool.and_eq_true, Bool.not_eq_true', decide_eq_true_eq] at h))
  obtain ⟨⟨h1, h2⟩, h3⟩ := h
  subst h1
  exact ⟨r_cmp ok o (mE_ok h3) (ha ok h2).1 (hb ok h3).1, fun _ => r_cmpT ok o (mE_ok h3) (ha ok h2).1 (hb ok h3).1⟩
theorem s_chn (o o' : CO) (a b c : E) (ha : SE St T L fad n a) (hb : SE St T L fad n b) (hc : SE St T L fad n c) : SE St T L fad n (.chn o o' a b c) := by
  (intro X sc fnb W x ok h; unfold mE at h; split at h <;> first | (cases h; done) | skip; all_goals (try simp only [Bool.and_eq_true, Bool.not_eq_true', decide_eq_true_eq] at h))
  obtain ⟨⟨⟨⟨h1, h1'⟩, h2⟩, h3⟩, h4⟩ := h
  subst h1; subst h1'
  exact ⟨r_chn ok o o' (mE_ok h3) (mE_ok h4) (ha ok h2).1 (hb ok h3).1 (hc ok h4).1, fun _ => r_chnT ok o o' (mE_ok h3) (mE_ok h4) (ha ok h2).1 (hb ok h3).1 (hc ok h4).1⟩
theorem mEs_ne {N : List Str} {sc : Scope} {fnb : Str → Bool} {l : List E} {xs : List Expr} (h : mEs St N l sc fnb xs = true) (hx : xs ≠ []) : l ≠ [] := fun z => by
  subst z
  have := mEs_len h
  exact hx (List.length_eq_zero_iff.mp this)
theorem evAnd_nil (call mk : Nat → List D → Sto → R D) : ∀ env s, evE call mk (.and []) env s = .fail := fun _ _ => rfl
theorem s_and (l : List E) (hl : SEs St T L fad n l) : SE St T L fad n (.and l) := by
  (intro X sc fnb W x ok h; unfold mE at h; split at h <;> first | (cases h; done) | skip; all_goals (try simp only [Bool.and_eq_true, Bool.not_eq_true', decide_eq_true_eq] at h))
  rename_i xs pos
  obtain ⟨h1, h2⟩ := h
  by_cases e : l = []
  · subst e
    exact ⟨⟨fun pins s σ H Q I ⟨ρ, st, env, sr, er, g⟩ => g.elim⟩, fun _ => ⟨fun pins s σ H Q I ⟨ρ, st, env, sr, er, g⟩ => g.elim⟩⟩
  · obtain ⟨a, b, c⟩ := (hl ok h2).2 e pos
    exact ⟨a, fun _ => (c h1).1.pt⟩
theorem s_or (l : List E) (hl : SEs St T L fad n l) : SE St T L fad n (.or l) := by
  (intro X sc fnb W x ok h; unfold mE at h; split at h <;> first | (cases h; done) | skip; all_goals (try simp only [Bool.and_eq_true, Bool.not_eq_true', decide_eq_true_eq] at h))
  rename_i xs pos
  obtain ⟨h1, h2⟩ := h
  by_cases e : l = []
  · subst e
    exact ⟨⟨fun pins s σ H Q I ⟨ρ, st, env, sr, er, g⟩ => g.elim⟩, fun _ => ⟨fun pins s σ H Q I ⟨ρ, st, env, sr, er, g⟩ => g.elim⟩⟩
  · obtain ⟨a, b, c⟩ := (hl ok h2).2 e pos
    exact ⟨b, fun _ => (c h1).2.pt⟩
theorem s_not (a : E) (ha : SE St T L fad n a) : SE St T L fad n (.not a) := by
  (intro X sc fnb W x ok h; unfold mE at h; split at h <;> first | (cases h; done) | skip; all_goals (try simp only [Bool.and_eq_true, Bool.not_eq_true', decide_eq_true_eq] at h))
  obtain ⟨⟨h1, h2⟩, h3⟩ := h
  subst h1
  exact ⟨r_not (ha ok h3).1, fun _ => r_notT ((ha ok h3).2 h2)⟩
theorem s_ite (c a b : E) (hc : SE St T L fad n c) (ha : SE St T L fad n a) (hb : SE St T L fad n b) : SE St T L fad n (.ite c a b) := by
  (intro X sc fnb W x ok h; unfold mE at h; split at h <;> first | (cases h; done) | skip; all_goals (try simp only [Bool.and_eq_true, Bool.not_eq_true', decide_eq_true_eq] at h))
  obtain ⟨⟨⟨h0, h1⟩, h2⟩, h3⟩ := h
  exact ⟨r_ite ((hc ok h1).2 h0) (ha ok h2).1 (hb ok h3).1, fun z => Bool.noConfusion (show false = true from z)⟩
theorem s_tup (l : List E) (hl : SEs St T L fad n l) : SE St T L fad n (.tup l) := by
  (intro X sc fnb W x ok h; unfold mE at h; split at h <;> first | (cases h; done) | skip; all_goals (try simp only [Bool.and_eq_true, Bool.not_eq_true', decide_eq_true_eq] at h))
  exact viaTest rfl rfl (r_tup (hl ok h).1)
theorem s_lst (m : Bool) (l : List E) (hl : SEs St T L fad n l) : SE St T L fad n (.lst m l) := by
  (intro X sc fnb W x ok h; unfold mE at h; split at h <;> first | (cases h; done) | skip; all_goals (try simp only [Bool.and_eq_true, Bool.not_eq_true', decide_eq_true_eq] at h))
  exact viaTest rfl rfl (r_lst (hl ok h).1)
theorem s_dic (t : Bool) : SE St T L fad n (.dic t) := by
  (intro X sc fnb W x ok h; unfold mE at h; split at h <;> first | (cases h; done) | skip; all_goals (try simp only [Bool.and_eq_true, Bool.not_eq_true', decide_eq_true_eq] at h))
  exact viaTest rfl rfl r_dic
theorem s_idx (a b : E) (ha : SE St T L fad n a) (hb : SE St T L fad n b) : SE St T L fad n (.idx a b) := by
  (intro X sc fnb W x ok h; unfold mE at h; split at h <;> first | (cases h; done) | skip; all_goals (try simp only [Bool.and_eq_true, Bool.not_eq_true', decide_eq_true_eq] at h))
  exact viaTest rfl rfl (r_idx ok (mE_ok h.2) (ha ok h.1).1 (hb ok h.2).1)
theorem s_sl (m : Bool) (a : E) (lo hi : Option E) (ha : SE St T L fad n a) (hl : SO St T L fad n lo) (hh : SO St T L fad n hi) : SE St T L fad n (.sl m a lo hi) := by
  (intro X sc fnb W x ok h; unfold mE at h; split at h <;> first | (cases h; done) | skip; all_goals (try simp only [Bool.and_eq_true, Bool.not_eq_true', decide_eq_true_eq] at h))
  obtain ⟨⟨h1, h2⟩, h3⟩ := h
  exact viaTest rfl rfl (r_sl ok (ha ok h1).1 (hl ok h2) (hh ok h3))
theorem s_rev (m : Bool) (a : E) (ha : SE St T L fad n a) : SE St T L fad n (.rev m a) := by
  (intro X sc fnb W x ok h; unfold mE at h; split at h <;> first | (cases h; done) | skip; all_goals (try simp only [Bool.and_eq_true, Bool.not_eq_true', decide_eq_true_eq] at h))
  exact viaTest rfl rfl (r_rev ok (ha ok h).1)
theorem s_call (f : Nat) (l : List E) (hl : SEs St T L fad n l) : SE St T L fad n (.call f l) := by
  (intro X sc fnb W x ok h; unfold mE at h; split at h <;> first | (cases h; done) | skip; all_goals (try simp only [Bool.and_eq_true, Bool.not_eq_true', decide_eq_true_eq] at h))
  obtain ⟨⟨h1, h2⟩, h3⟩ := h
  rename_i y p0 xs pos
  have ho := all_okE h3
  have hp := (hl ok h3).1
  cases xs with
  | nil =>
    cases l with
    | nil => exact viaTest rfl rfl (r_call0 ok h1 h2)
    | cons e l => exact absurd h3 (by simp [mEs])
  | cons x xs => exact viaTest rfl rfl (r_call ok h1 h2 ho hp)
theorem s_calli (f : Nat) (l : List E) (hl : SEs St T L fad n l) : SE St T L fad n (.calli f l) := by
  (intro X sc fnb W x ok h; unfold mE at h; split at h <;> first | (cases h; done) | skip; all_goals (try simp only [Bool.and_eq_true, Bool.not_eq_true', decide_eq_true_eq] at h))
  obtain ⟨⟨h1, h2⟩, h3⟩ := h
  rename_i y p0 xs pos
  have ho := all_okE h3
  have hp := (hl ok h3).1
  cases xs with
  | nil =>
    cases l with
    | nil => exact viaTest rfl rfl (r_calli0 ok h1 h2)
    | cons e l => exact absurd h3 (by simp [mEs])
  | cons x xs => exact viaTest rfl rfl (r_calli ok h1 h2 ho hp)
theorem s_make (c f : Nat) (l : List E) (hl : SEs St T L fad n l) : SE St T L fad n (.make c f l) := by
  (intro X sc fnb W x ok h; unfold mE at h; split at h <;> first | (cases h; done) | skip; all_goals (try simp only [Bool.and_eq_true, Bool.not_eq_true', decide_eq_true_eq] at h))
  obtain ⟨⟨⟨h1, h2⟩, h0⟩, h3⟩ := h
  rename_i y p0 xs pos
  have ho := all_okE h3
  have hp := (hl ok h3).1
  split at h0
  · rename_i cd hcd
    have h0 := of_decide_eq_true h0
    cases xs with
    | nil =>
      cases l with
      | nil => exact viaTest rfl rfl (r_make0 ok hcd h0 h1 h2)
      | cons e l => exact absurd h3 (by simp [mEs])
    | cons x xs => exact viaTest rfl rfl (r_make ok hcd h0 h1 h2 ho hp)
  · cases h0
theorem s_fld (c i : Nat) (o : E) (ho : SE St T L fad n o) : SE St T L fad n (.fld c i o) := by
  (intro X sc fnb W x ok h; unfold mE at h; split at h <;> first | (cases h; done) | skip; all_goals (try simp only [Bool.and_eq_true, Bool.not_eq_true', decide_eq_true_eq] at h))
  obtain ⟨⟨h1, h2⟩, h3⟩ := h
  split at h2
  · rename_i cd hcd
    exact viaTest rfl rfl (r_fld ok hcd (nmB_ok h2) (mE_ok h3) h1 (ho ok h3).1)
  · cases h2
theorem s_meth (c f : Nat) (o : E) (l : List E) (ho : SE St T L fad n o) (hl : SEs St T L fad n l) : SE St T L fad n (.meth c f o l) := by
  (intro X sc fnb W x ok h; unfold mE at h; split at h <;> first | (cases h; done) | skip; all_goals (try simp only [Bool.and_eq_true, Bool.not_eq_true', decide_eq_true_eq] at h))
  obtain ⟨⟨⟨⟨⟨⟨h1, h2⟩, h3⟩, h4⟩, h5⟩, h6⟩, h7⟩ := h
  rename_i p y ap xs cp
  have hok := all_okE h7
  have hp := (hl ok h7).1
  split at h5
  · rename_i cd hcd
    have h5 : cd.fields.contains y = false := by simpa using h5
    cases xs with
    | nil =>
      cases l with
      | nil => exact viaTest rfl rfl (r_meth0 ok hcd h5 h4 (mE_ok h6) h1 h2 (ho ok h6).1)
      | cons e l => exact absurd h7 (by simp [mEs])
    | cons x xs => exact viaTest rfl rfl (r_meth ok hcd h5 h4 (mE_ok h6) h1 h2 hok h3 (ho ok h6).1 hp)
  · cases h5
theorem s_bi (b : Bi) (l : List E) (hl : SEs St T L fad n l) : SE St T L fad n (.bi b l) := by
  (intro X sc fnb W x ok h; unfold mE at h; split at h <;> first | (cases h; done) | skip; all_goals (try simp only [Bool.and_eq_true, Bool.not_eq_true', decide_eq_true_eq] at h))
  obtain ⟨⟨h1, h2⟩, h3⟩ := h
  exact viaTest rfl rfl (r_bi ok b h1 h2 (all_okE h3) (hl ok h3).1)
theorem s_isi (a : E) (t : Ty) (ha : SE St T L fad n a) : SE St T L fad n (.isi a t) := by
  (intro X sc fnb W x ok h; unfold mE at h; split at h <;> first | (cases h; done) | skip; all_goals (try simp only [Bool.and_eq_true, Bool.not_eq_true', decide_eq_true_eq] at h))
  obtain ⟨⟨⟨h1, h2⟩, h3⟩, h4⟩ := h
  exact viaTest rfl rfl (r_isi ok h1 h2 (mE_ok h3) (ha ok h3).1 h4)
theorem s_isiT (a : E) (t : List Ty) (ha : SE St T L fad n a) : SE St T L fad n (.isiT a t) := by
  intro X sc fnb W x ok h
  unfold mE at h
  cases h
theorem s_bm (b : Bm) (o : E) (l : List E) (ho : SE St T L fad n o) (hl : SEs St T L fad n l) (hm : ∀ e ∈ l, SE St T L fad n e) : SE St T L fad n (.bm b o l) := by
  (intro X sc fnb W x ok h; unfold mE at h; split at h <;> first | (cases h; done) | skip; all_goals (try simp only [Bool.and_eq_true, Bool.not_eq_true', decide_eq_true_eq] at h))
  obtain ⟨⟨⟨⟨⟨⟨h1, h2⟩, h3⟩, h4⟩, h5⟩, h6⟩, h7⟩ := h
  rename_i p y ap xs cp
  subst h4
  have hok := all_okE h7
  have hp := hl ok h7
  have oo := (ho ok h6).1
  have el := mEs_len h7
  match xs, l, hm, h7, hok, hp, h5, el with
  | [], [], hm, h7, hok, hp, h5, el => exact viaTest rfl rfl (r_bm0 h5 (mE_ok h6) h1 h2 oo)
  | [x], [e], hm, h7, hok, hp, h5, el =>
    by_cases hb : isGet1 b = false
    · exact viaTest rfl rfl (r_bmN ok h5 hb (mE_ok h6) h1 h2 hok oo hp.1)
    · have hx : mE St X.N e sc fnb x = true := by
        unfold mEs at h7
        simp only [Bool.and_eq_true] at h7
        exact h7.1
      cases b <;> first | (exact absurd rfl hb) | skip
      have hk := (hm e (by simp) ok hx).1
      refine viaTest rfl rfl (rTE_eq (r_get1 ok (mE_ok h6) h1 h2 (mE_ok hx) oo hk) fun env s => ?_)
      show ((evE (callF T n) (callM T n) o env s).bind _) = ((evE (callF T n) (callM T n) o env s).bind _)
      congr 1
      funext d s
      split
      · show ((evE (callF T n) (callM T n) e env s).bind fun d s => (R.ok [] s).bind fun ds s => R.ok (d :: ds) s).bind _ = _
        rw [R.bind_assoc]; rfl
      · rfl
  | [x, y], [e, e'], hm, h7, hok, hp, h5, el =>
    have hx : mE St X.N e sc fnb x = true ∧ mE St X.N e' sc fnb y = true := by
      unfold mEs at h7
      unfold mEs at h7
      simp only [Bool.and_eq_true] at h7
      exact ⟨h7.1, h7.2.1⟩
    cases b <;> first | (exact Bool.noConfusion (show false = true from h5)) | skip
    have hk := (hm e (by simp) ok hx.1).1
    have hk2 := (hm e' (by simp) ok hx.2).1
    refine viaTest rfl rfl (rTE_eq (r_get2 ok (mE_ok h6) h1 h2 (mE_ok hx.1) (mE_ok hx.2) oo hk hk2) fun env s => ?_)
    show ((evE (callF T n) (callM T n) o env s).bind _) = ((evE (callF T n) (callM T n) o env s).bind _)
    congr 1
    funext d s
    split
    · show ((evE (callF T n) (callM T n) e env s).bind fun d s => ((evE (callF T n) (callM T n) e' env s).bind fun d s => (R.ok [] s).bind fun ds s => R.ok (d :: ds) s).bind fun ds s => R.ok (d :: ds) s).bind _ = _
      rw [R.bind_assoc]
      congr 1
      funext d s
      rw [R.bind_assoc, R.bind_assoc]; rfl
    · rfl
  | x :: y :: z :: xs, _, hm, h7, hok, hp, h5, el => cases b <;> exact Bool.noConfusion (show false = true from h5)
/-! ### lists of parts -/
theorem s_nil : SEs St T L fad n [] := by
  intro X sc fnb W xs ok h
  unfold mEs at h
  cases xs with
  | nil => exact ⟨r_nil, fun z => absurd rfl z⟩
  | cons x xs => cases h
theorem s_cons (e : E) (l : List E) (he : SE St T L fad n e) (hl : SEs St T L fad n l) : SEs St T L fad n (e :: l) := by
  intro X sc fnb W xs ok h
  unfold mEs at h
  cases xs with
  | nil => cases h
  | cons x xs =>
    simp only [Bool.and_eq_true] at h
    obtain ⟨h1, h2⟩ := h
    obtain ⟨a, at_⟩ := he ok h1
    have hls := hl ok h2
    refine ⟨r_cons (mE_ok h1) a hls.1, fun _ pos => ?_⟩
    cases l with
    | nil =>
      have : xs = [] := by
        have := mEs_len h2
        exact List.length_eq_zero_iff.mp this
      subst this
      exact ⟨r_and1 a, r_and1 a, fun z => by
        simp only [List.all_cons, List.all_nil, Bool.and_true] at z
        exact ⟨r_and1T (at_ z), r_or1T (at_ z)⟩⟩
    | cons e' l =>
      have : ∃ y ys, xs = y :: ys := by
        cases xs with
        | nil => unfold mEs at h2; cases h2
        | cons y ys => exact ⟨y, ys, rfl⟩
      obtain ⟨y, ys, rfl⟩ := this
      obtain ⟨b1, b2, b3⟩ := hls.2 (by simp) pos
      exact ⟨r_andC a b1, r_orC a b2, fun z => by
        rw [List.all_cons, Bool.and_eq_true] at z
        obtain ⟨c1, c2⟩ := b3 z.2
        exact ⟨r_andCT (at_ z.1) c1, r_orCT (at_ z.1) c2⟩⟩
theorem s_none : SO St T L fad n none := by
  intro X sc fnb W x ok h
  unfold mO at h
  cases x with
  | none => exact r_o0
  | some x => cases h
theorem s_some (e : E) (he : SE St T L fad n e) : SO St T L fad n (some e) := by
  intro X sc fnb W x ok h
  unfold mO at h
  cases x with
  | none => cases h
  | some x => exact r_o1 (he ok h).1
/-! ### what is walked -/
theorem s_seq (a : E) (ha : SE St T L fad n a) : SI St T L fad n (.seq a) := by
  intro X sc fnb W tg x ok h
  unfold mIt at h
  exact ⟨r_iseq ok.K (ha ok h).1, mE_ok h⟩
theorem s_rng1 (a : E) (ha : SE St T L fad n a) : SI St T L fad n (.rng1 a) := by
  (intro X sc fnb W tg x ok h; unfold mIt at h; split at h <;> first | (cases h; done) | skip; all_goals (try simp only [Bool.and_eq_true, Bool.not_eq_true', decide_eq_true_eq] at h))
  obtain ⟨⟨h1, h2⟩, h3⟩ := h
  exact ⟨r_rng1 ok h1 h2 (mE_ok h3) (ha ok h3).1, rfl⟩
theorem s_rng2 (a b : E) (ha : SE St T L fad n a) (hb : SE St T L fad n b) : SI St T L fad n (.rng2 a b) := by
  (intro X sc fnb W tg x ok h; unfold mIt at h; split at h <;> first | (cases h; done) | skip; all_goals (try simp only [Bool.and_eq_true, Bool.not_eq_true', decide_eq_true_eq] at h))
  obtain ⟨⟨⟨h1, h2⟩, h3⟩, h4⟩ := h
  exact ⟨r_rng2 ok h1 h2 (mE_ok h3) (mE_ok h4) (ha ok h3).1 (hb ok h4).1, rfl⟩
theorem s_enm (a : E) (ha : SE St T L fad n a) : SI St T L fad n (.enm a) := by
  (intro X sc fnb W tg x ok h; unfold mIt at h; split at h <;> first | (cases h; done) | skip; all_goals (try simp only [Bool.and_eq_true, Bool.not_eq_true', decide_eq_true_eq] at h))
  obtain ⟨⟨⟨h0, h1⟩, h2⟩, h3⟩ := h
  exact ⟨r_enm ok h0 h1 h2 (mE_ok h3) (ha ok h3).1, rfl⟩
theorem s_zip (a b : E) (ha : SE St T L fad n a) (hb : SE St T L fad n b) : SI St T L fad n (.zip a b) := by
  (intro X sc fnb W tg x ok h; unfold mIt at h; split at h <;> first | (cases h; done) | skip; all_goals (try simp only [Bool.and_eq_true, Bool.not_eq_true', decide_eq_true_eq] at h))
  obtain ⟨⟨⟨⟨h0, h1⟩, h2⟩, h3⟩, h4⟩ := h
  exact ⟨r_zip ok h0 h1 h2 (mE_ok h3) (mE_ok h4) (ha ok h3).1 (hb ok h4).1, rfl⟩
theorem s_irev (a : E) (ha : SE St T L fad n a) : SI St T L fad n (.rev a) := by
  (intro X sc fnb W tg x ok h; unfold mIt at h; split at h <;> first | (cases h; done) | skip; all_goals (try simp only [Bool.and_eq_true, Bool.not_eq_true', decide_eq_true_eq] at h))
  obtain ⟨⟨h1, h2⟩, h3⟩ := h
  exact ⟨r_irev ok h1 h2 (mE_ok h3) (ha ok h3).1, rfl⟩
/-! ### comprehensions -/
/-- the parts of a comprehension, as they stand in its block -/
structure LcOk (St : Stat) (T : Tb) (L : Lk) (fad : Nat → Addr) (n : Nat) (X : Cx) (sc : Scope) (W : WX) (it : It) (p : Pat) (c : Option E) (e : E) (elt tg iter : Expr) (ifs : List Expr) (scope : Scope) : Prop where
  hi : PI X tg iter (rTI L W (evIt (callF T n) (callM T n) it))
  oi : okE iter = true
  bok : BlkOk X.N X.env.scope scope (ownOf X.N p)
  hg : ∀ (s : Shared) (H : Hp) (C : Addr) (cl : List (Str × Addr)) (fp : List Addr), PG (X.blk s H scope (compEnvC scope cl C X.env) fp) tg (gPat L.K p)
  ht : ∀ (s : Shared) (H : Hp) (C : Addr) (cl : List (Str × Addr)) (fp : List Addr), PTs (X.blk s H scope (compEnvC scope cl C X.env) fp) ifs (tcC L (c.map (evE (callF T n) (callM T n))))
  he : ∀ (s : Shared) (H : Hp) (C : Addr) (cl : List (Str × Addr)) (fp : List Addr), PE (X.blk s H scope (compEnvC scope cl C X.env) fp) elt (rTE L nW (evE (callF T n) (callM T n) e))
theorem lc_ok {it : It} {p : Pat} {c : Option E} {e : E} (hit : SI St T L fad n it) (hc : SOE St T L fad n c) (he : SE St T L fad n e) {X : Cx} {sc : Scope} {fnb : Str → Bool} {W : WX} {elt tg iter : Expr} {ifs : List Expr} {scope : Scope} (ok : XOk St T L fad n X sc fnb W)
    (h1 : mIt St X.N it sc fnb tg iter = true) (h2 : blkC X.N sc scope (ownOf X.N p) = true) (h3 : mP X.N (relS scope sc) (fun y => scope.names.lookup y == some .cell) p tg = true)
    (h4 : (match (generalizing := false) c, ifs with | none, [] => true | some c, [i] => notIte c && mE St X.N c (relS scope sc) (fun y => scope.names.lookup y == some .cell) i | _, _ => false) = true) (h5 : mE St X.N e (relS scope sc) (fun y => scope.names.lookup y == some .cell) elt = true) :
    LcOk St T L fad n X sc W it p c e elt tg iter ifs scope where
  hi := (hit ok h1).1
  oi := (hit ok h1).2
  bok := by rw [ok.sc]; exact blkOk_by h2
  hg := fun s H C cl fp => by
    have o := ok.blk (s := s) (H := H) (scope := scope) (cl := cl) (C := C) (fp := fp)
    rw [← ok.K]
    exact mP_ok (X := X.blk s H scope (compEnvC scope cl C X.env) fp) o.calm o.nd o.sc o.fnl h3
  ht := fun s H C cl fp => by
    have o := ok.blk (s := s) (H := H) (scope := scope) (cl := cl) (C := C) (fp := fp)
    split at h4
    · exact pts_nil
    · rename_i c i
      simp only [Bool.and_eq_true] at h4
      exact pts_one ((hc c rfl o h4.2).2 h4.1)
    · cases h4
  he := fun s H C cl fp => (he (ok.blk (s := s) (H := H) (scope := scope) (cl := cl) (C := C) (fp := fp)) h5).1
theorem lc_eq {call mk : Nat → List D → Sto → R D} {m : Bool} {it : It} {p : Pat} {c : Option E} {e : E} : ∀ env s, evE call mk (.lc m it p c e) env s = lcR (evIt call mk it) m p (c.map (evE call mk)) (evE call mk e) env s := by
  intro env s
  unfold lcR
  rw [evE]
  congr 2
  funext items s
  congr 1
  congr 1
  funext x s
  cases bindP p x s env with
  | none => rfl
  | some env' => cases c <;> rfl
theorem s_lc (m : Bool) (it : It) (p : Pat) (c : Option E) (e : E) (hit : SI St T L fad n it) (hc : SOE St T L fad n c) (he : SE St T L fad n e) : SE St T L fad n (.lc m it p c e) := by
  (intro X sc fnb W x ok h; unfold mE at h; split at h <;> first | (cases h; done) | skip; all_goals (try simp only [Bool.and_eq_true, Bool.not_eq_true', decide_eq_true_eq] at h))
  obtain ⟨⟨⟨⟨⟨h0, h1⟩, h2⟩, h3⟩, h4⟩, h5⟩ := h
  subst h0
  have k := lc_ok hit hc he ok h1 h2 h3 h4 h5
  exact viaTest rfl rfl (rTE_eq (r_lc ok k.hi k.bok own_slots k.hg k.ht k.he k.oi) fun env s => lc_eq env s)
theorem s_fz (i : Nat) : SE St T L fad n (.fz i) := by
  (intro X sc fnb W x ok h; unfold mE at h; split at h <;> first | (cases h; done) | skip; all_goals (try simp only [Bool.and_eq_true, Bool.not_eq_true', decide_eq_true_eq] at h))
  exact viaTest rfl rfl (r_fz ok.sc h.1 h.2)
theorem s_dst (a : E) (ha : SE St T L fad n a) : SE St T L fad n (.dst a) := by
  (intro X sc fnb W x ok h; unfold mE at h; split at h <;> first | (cases h; done) | skip; all_goals (try simp only [Bool.and_eq_true, Bool.not_eq_true', decide_eq_true_eq] at h))
  obtain ⟨⟨⟨⟨h1, h2⟩, h3⟩, h4⟩, h5⟩ := h
  exact viaTest rfl rfl (r_dst ok h1 h2 h3 h4 (mE_ok h5) (ha ok h5).1)
/-! ### all -/
theorem sE (e : E) : SE St T L fad n e := by
  refine E.rec (motive_1 := fun e => SE St T L fad n e) (motive_2 := fun it => SI St T L fad n it) (motive_3 := fun l => SEs St T L fad n l ∧ ∀ e ∈ l, SE St T L fad n e) (motive_4 := fun o => SO St T L fad n o ∧ SOE St T L fad n o)
    s_k s_g s_v s_bin s_neg s_cmp s_chn (fun l hl => s_and l hl.1) (fun l hl => s_or l hl.1) s_not s_ite (fun l hl => s_tup l hl.1) (fun m l hl => s_lst m l hl.1) s_dic s_idx (fun m a lo hi ha hl hh => s_sl m a lo hi ha hl.1 hh.1) s_rev (fun f l hl => s_call f l hl.1) (fun f l hl => s_calli f l hl.1)
    (fun c f l hl => s_make c f l hl.1) s_fld (fun c f o l ho hl => s_meth c f o l ho hl.1) (fun b l hl => s_bi b l hl.1) (fun b o l ho hl => s_bm b o l ho hl.1 hl.2) s_isi s_isiT (fun m it p c e hi hc he => s_lc m it p c e hi hc.2 he) s_dst s_fz
    s_seq s_rng1 s_rng2 s_enm s_zip s_irev ⟨s_nil, fun e h => by cases h⟩ (fun e l he hl => ⟨s_cons e l he hl.1, fun x hx => ?_⟩) ⟨s_none, fun e h => by cases h⟩ (fun e he => ⟨s_some e he, fun x hx => by cases hx; exact he⟩) e
  rcases List.mem_cons.mp hx with z | z
  · rw [z]; exact he
  · exact hl.2 x z
theorem sI (it : It) : SI St T L fad n it := by
  cases it with
  | seq a => exact s_seq a (sE a)
  | rng1 a => exact s_rng1 a (sE a)
  | rng2 a b => exact s_rng2 a b (sE a) (sE b)
  | enm a => exact s_enm a (sE a)
  | zip a b => exact s_zip a b (sE a) (sE b)
  | rev a => exact s_irev a (sE a)
end all
end JM

set_option autoImplicit false
/-! J16: statements. -/
namespace JM
open PySem PySem.Spec PyProof.Rows L2

/-! ### which statement is which -/
section match_
variable (St : Stat) (N : List Str)
def lcB : E → Scope → (Str → Bool) → Expr → Bool
  | .lc m it p c e, sc, fnb, x => mE St N (.lc m it p c e) sc fnb x
  | _, _, _, _ => false
def notLocB (sc : Scope) (y : Str) : Bool := match sc.names.lookup y with | some .local => false | _ => true
/-- the name of a value made by a comprehension on the same line -/
def lineB (sc : Scope) (y : Str) (py : Pos) : Expr → Bool
  | .ListComp _ _ scope pos => notLocB sc y || (match sc.kind with | .function => true | _ => false) && (match sc.names.lookup y with | some .local => true | _ => false) && (py.line == pos.line) && !(scope.names.any fun (n, k) => n == y && (k == .local || k == .cell))
  | _ => true
/-- a class of errors -/
def exB (i : Nat) (y : Str) : Bool := match St.exs[i]? with | some z => decide (z = y) | none => false
def tryHd : Stmt → Option (List Stmt × Str × Option Str × Expr)
  | .Try body [.ExceptHandler (some (.Name y _)) n [.Return (some v) _] _] [] [] _ => some (body, y, n, v)
  | _ => none
def isC (sc : Scope) : E → Str → Bool
  | .k (.int k), c => glB sc c && exB St k.toNat c
  | .k .non, c => decide (c = ("ValueError" : Str)) && freeB St sc c
  | _, _ => false
def isB (sc : Scope) (z : Str) (e : E) : Expr → Bool
  | .Call (.Name y _) [.Name z1 _, .Name c _] [] _ => decide (y = ("isinstance" : Str)) && freeB St sc y && decide (z1 = z) && visB sc z && isC St sc e c
  | _ => false
def locX (sc : Scope) (z : Str) : Bool := match sc.names.lookup z with | some .local => true | _ => false
def hB (sc : Scope) (i : Option Nat) (h : List S) (n : Option Str) (v : Expr) : Bool := match i, h, n with
  | none, [.ret (.k d)], none => (match v with | .Constant c _ _ => litB d c | _ => false)
  | some k, [.ret (.tup [e1, e2])], some z => (match v with | .BoolOp .And [a, b] _ => nmB N k z && locX sc z && isB St sc z e1 a && isB St sc z e2 b | _ => false)
  | _, _, _ => false
mutual
def mS : S → Scope → (Str → Bool) → Stmt → Bool
  | .set i e, sc, fnb, x => (match x with | .Assign [.Name y py] v _ => nmB N i y && locB sc fnb y && lineB sc y py v && mE St N e sc fnb v | _ => false)
  | .unp l e, sc, fnb, x => (match x with | .Assign [.Tuple ts k py] v _ => !isLC v && !isTupE v && mPs N sc fnb l ts && mE St N e sc fnb v | _ => false)
  | .fset c i o e, sc, fnb, x => (match x with | .Assign [.Attribute p y _] v _ => !isLC v && (match St.cls[c]? with | some d => nmB d.fields i y | none => false) && mE St N o sc fnb p && mE St N e sc fnb v | _ => false)
  | .iset o i e, sc, fnb, x => (match x with | .Assign [.Subscript p q _] v _ => !isLC v && mE St N o sc fnb p && mE St N i sc fnb q && mE St N e sc fnb v | _ => false)
  | .ret e, sc, fnb, x => (match x with | .Return (some v) _ => mE St N e sc fnb v | _ => false)
  | .retN, _, _, x => (match x with | .Return none _ => true | _ => false)
  | .ex e, sc, fnb, x => (match x with | .Expr v _ => !isLC v && mE St N e sc fnb v | _ => false)
  | .ite c a b, sc, fnb, x => (match x with | .If v p q _ => notIte c && mE St N c sc fnb v && mSs a sc fnb p && mSs b sc fnb q | _ => false)
  | .for_ p it b, sc, fnb, x => (match x with | .For tg v q [] _ => mP N sc fnb p tg && mIt St N it sc fnb tg v && mSs b sc fnb q | _ => false)
  | .while_ c b, sc, fnb, x => (match x with | .While v q [] _ => notIte c && mE St N c sc fnb v && mSs b sc fnb q | _ => false)
  | .brk, _, _, x => (match x with | .Break _ => true | _ => false)
  | .cnt, _, _, x => (match x with | .Continue _ => true | _ => false)
  | .pas, _, _, x => (match x with | .Pass _ => true | .Expr (.Constant (.str _) _ _) _ => true | _ => false)
  | .raise i, sc, _, x => (match x with | .Raise (some (.Call (.Name y _) [.Constant (.str _) _ _] [] _)) none _ => glB sc y && exB St i y | _ => false)
  | .try_ b j i h, sc, fnb, x => (match tryHd x with | some (body, y, n, v) => glB sc y && exB St j y && (mSs b sc fnb body && hB St N sc i h n v) | none => false)
def mSs : List S → Scope → (Str → Bool) → List Stmt → Bool
  | [], _, _, xs => (match xs with | [] => true | _ :: _ => false)
  | e :: l, sc, fnb, xs => (match xs with | [] => false | x :: xs => mS e sc fnb x && mSs l sc fnb xs)
end
end match_
/-- a context for statements -/
structure XSt (St : Stat) (T : Tb) (L : Lk) (fad : Nat → Addr) (n : Nat) (X : Cx) (sc : Scope) (fnb : Str → Bool) (W : WX) : Prop where
  ok : XOk St T L fad n X sc fnb W
  po : PassesOwn (model X.prog X.w) X.A X.env X.xe
  hs : X.stack = X.env :: X.outer
  hf : X.env.frame = some X.env.locals
section rules
variable {St : Stat} {T : Tb} {L : Lk} {fad : Nat → Addr} {n : Nat} {X : Cx} {sc : Scope} {fnb : Str → Bool} {W : WX}
variable {fa fb fc : Env' → Sto → R D} {p q r e tg : Expr} {pos pos' py : Pos}

theorem rTS_eq {x : Stmt} {f g : Env' → Sto → O} (h : PS X x (rTS L W f)) (e : ∀ env s, g env s = f env s) : PS X x (rTS L W g) := by
  have : g = f := by funext env s; exact e env s
  rw [this]; exact h
theorem go_set {σ : L2.St} {H : Hp} {D' : Ends} {i : Nat} (h : rTS L W (fun env s => (fa env s).go env fun d s => .nx (env.set i (some d)) s) D' σ H) : tAsg (rTE L W fa) (gName i) D' σ H := by
  obtain ⟨ρ, s, env, sr, er, g⟩ := h
  refine ⟨ρ, s, env, sr, er, (Good.go (rel := VR L.K) g er).imp fun v H1 ⟨ρ1, s1, d, e1, sr1, h1, g1⟩ => ?_⟩
  exact g1 ρ1 _ H1 Ex.refl sr1 ((er.mono e1).set h1)
theorem q_set' (ok : XOk St T L fad n X sc fnb W) {i : Nat} {y : Str} (hi : nmB X.N i y = true) (hl : locB sc fnb y = true) (hs : swapsWith e (some (.Name y py)) pos.line X.env = pure false) (ha : PE X e (rTE L W fa)) :
    PS X (.Assign [.Name y py] e pos) (rTS L W fun env s => (fa env s).go env fun d s => .nx (env.set i (some d)) s) := by
  obtain ⟨l1, l2⟩ := locB_ok ok.sc ok.fnl hl
  exact (ps_set ok.nd (nmB_ok hi) l1 ha hs l2).weak fun D σ H h => go_set h
theorem q_set (ok : XOk St T L fad n X sc fnb W) {i : Nat} {y : Str} (hi : nmB X.N i y = true) (hl : locB sc fnb y = true) (he : okE e = true) (hc : isLC e = false) (ha : PE X e (rTE L W fa)) :
    PS X (.Assign [.Name y py] e pos) (rTS L W fun env s => (fa env s).go env fun d s => .nx (env.set i (some d)) s) := q_set' ok hi hl (swap_ok he hc) ha
theorem sw_cell {elt : Expr} {gs : List Comprehension} {scope : Scope} {p : Pos} {y : Str} {l : Nat} {env : Env} (hy : notLocB env.scope y = true) : swapsWith (.ListComp elt gs scope p) (some (.Name y py)) l env = pure false := by
  have ky : (env.kindOf y == some .local) = false := by
    show (env.scope.names.lookup y == some .local) = false
    unfold notLocB at hy
    split at hy
    · cases hy
    · rename_i h
      cases e : env.scope.names.lookup y with
      | none => rfl
      | some k => cases k <;> first | rfl | exact absurd e h
  unfold swapsWith
  simp only [ky, Bool.and_false, Bool.false_and]
  try rfl
theorem q_unp (ok : XOk St T L fad n X sc fnb W) {l : List Nat} {ts : List Expr} {k : Nat} (he : okE e = true) (hc : isLC e = false) (ht : isTupE e = false) (hg : mPs X.N sc fnb l ts = true) (ha : PE X e (rTE L W fa)) :
    PS X (.Assign [.Tuple ts k py] e pos) (rTS L W fun env s => (fa env s).go env fun d s => (match bindP (.tup l) d s env with | some env' => .nx env' s | none => .fail)) := by
  have pg : PG X (.Tuple ts k py) (gPat X.K (.tup l)) := mP_ok ok.calm ok.nd ok.sc ok.fnl (p := .tup l) (tg := .Tuple ts k py) (by unfold mP; exact hg)
  refine (ps_asg (pos := pos) ha pg (by unfold swapsWithSole; exact swap_ok he hc) ?_ ?_).weak fun D σ H ⟨ρ, s, env, sr, er, g⟩ => ?_
  · cases e <;> first | rfl | exact Bool.noConfusion (show true = false from ht)
  · rfl
  · refine ⟨ρ, s, env, sr, er, (Good.go (rel := VR L.K) g er).imp fun v H1 ⟨ρ1, s1, d, e1, sr1, h1, g1⟩ => ?_⟩
    rw [ok.K]
    cases eb : bindP (.tup l) d s1 env with
    | none => rw [eb] at g1; exact g1.elim
    | some env' =>
      rw [eb] at g1
      exact gPat_ok eb h1 (er.mono e1) fun σ' er' _ => g1 ρ1 σ' H1 Ex.refl sr1 er'
theorem putF_set {v : V} : ∀ {fs : List Str} {xs : List V} {i : Nat} {y : Str}, fs.Nodup → fs[i]? = some y → i < xs.length → putF y v (fs.zip xs) = fs.zip (xs.set i v)
  | [], _, _, _, _, h, _ => by simp at h
  | f :: fs, [], _, _, _, _, h => by simp at h
  | f :: fs, x :: xs, 0, y, nd, h, hl => by
    simp at h; subst h
    show putF f v ((f, x) :: fs.zip xs) = _
    unfold putF
    rw [if_pos rfl]; rfl
  | f :: fs, x :: xs, i + 1, y, nd, h, hl => by
    simp only [List.getElem?_cons_succ] at h
    have nd' := List.nodup_cons.mp nd
    show putF y v ((f, x) :: fs.zip xs) = _
    unfold putF
    rw [if_neg (show ¬ f = y from fun z => nd'.1 (by rw [z]; exact List.mem_of_getElem? h)), putF_set nd'.2 h (by simpa using hl)]
    rfl
theorem putF_new {v : V} : ∀ {fs : List Str} {xs : List V} {y : Str}, fs.Nodup → fs[xs.length]? = some y → putF y v (fs.zip xs) = fs.zip (xs ++ [v])
  | [], _, _, _, h => by simp at h
  | f :: fs, [], y, nd, h => by
    simp at h; subst h
    show putF f v [] = _
    simp [putF]
  | f :: fs, x :: xs, y, nd, h => by
    simp only [List.length_cons, List.getElem?_cons_succ] at h
    have nd' := List.nodup_cons.mp nd
    show putF y v ((f, x) :: fs.zip xs) = _
    unfold putF
    rw [if_neg (show ¬ f = y from fun z => nd'.1 (by rw [z]; exact List.mem_of_getElem? h)), putF_new nd'.2 h]
    rfl
theorem snocV {K : PySem.W.Frag} {ρ : Ro} {H : Hp} {l : List D} {xs : List V} {d : D} {v : V} (p : VL K ρ H l xs) (h : VR K ρ H d v) : VL K ρ H (l ++ [d]) (xs ++ [v]) := papp p (.cons h .nil)
/-- a place written, in a statement -/
theorem GoodO.wrote {D' : Ends} {ρ : Ro} {H : Hp} {σ : L2.St} {env : Env'} {s : Sto} {m : Nat} {a : Addr} {c : Cell} {o : HO} (g : GoodO L W D' ρ H (.nx env (s.set m c))) (sr : SR L ρ s H) (er : ER L.K ρ H env σ) (hn : ρ.pl[m]? = some (some a)) (hc : CellR L ρ (upd H a o) a c) : D'.nx σ (upd H a o) :=
  g ρ σ _ (Ex.write (List.mem_of_getElem? hn)) (sr.write hn hc) (er.mono (Ex.write (List.mem_of_getElem? hn)))
theorem q_fset (ok : XOk St T L fad n X sc fnb W) {c i : Nat} {y : Str} {cd : ClsS} (hcd : St.cls[c]? = some cd) (hy : cd.fields[i]? = some y) (he : okE e = true) (hc : isLC e = false) (ho : PE X p (rTE L W fb)) (ha : PE X e (rTE L W fa)) :
    PS X (.Assign [.Attribute p y py] e pos) (rTS L W fun env s => (fa env s).go env fun v s => (fb env s).go env fun d s => (match setFldD c i d v s with | some s => .nx env s | none => .fail)) := by
  obtain ⟨_, k1, k2, k3, k4, k5, _⟩ := ok.lk.cls c cd hcd
  refine (ps_fld ho ha (swap_ok he hc)).weak fun D σ H ⟨ρ, s, env, sr, er, g⟩ => ?_
  refine ⟨ρ, s, env, sr, er, (Good.go (rel := VR L.K) g er).imp fun v H1 ⟨ρ1, s1, d, e1, sr1, h1, g1⟩ => ?_⟩
  refine ⟨ρ1, s1, env, sr1, er.mono e1, (Good.go (rel := VR L.K) g1 (er.mono e1)).imp fun u H2 ⟨ρ2, s2, d2, e2, sr2, h2, g2⟩ => ?_⟩
  cases eb : setFldD c i d2 d s2 with
  | none => rw [eb] at g2; exact g2.elim
  | some s3 =>
    rw [eb] at g2
    have er2 := (er.mono e1).mono e2
    unfold setFldD at eb
    split at eb
    · rename_i m
      split at eb
      · rename_i c' l hn
        split at eb
        · rename_i ec
          subst ec
          obtain ⟨a, rfl, hpl, dx, xs, hH, pl, hle⟩ := sr2.at h2 hn (by intro z; cases z)
          have hz : ((L.cfs c').zip xs).length < 1000 := by
            rw [List.length_zip, k3]
            omega
          refine ⟨a, _, dx, _, rfl, hH, by rw [ok.K]; exact k1, by rw [ok.K]; exact k2 y (List.mem_of_getElem? hy), hz, ?_⟩
          have hv := h1.mono e2
          have ew := Ex.write (o := .ins (L.cad c') dx (putF y v ((L.cfs c').zip xs))) (H := H2) (List.mem_of_getElem? hpl)
          have nd : (L.cfs c').Nodup := by rw [k3]; exact k4
          have hy' : (L.cfs c')[i]? = some y := by rw [k3]; exact hy
          split at eb
          · rename_i hi
            cases eb
            exact g2.wrote sr2 er2 hpl ⟨dx, xs.set i v, by rw [upd_same, putF_set nd hy' (by rw [← pl.length]; exact hi)], pset (hv.mono ew) i (pl.mono ew), by rw [List.length_set]; exact hle⟩
          · split at eb
            · rename_i hi
              cases eb
              have hi' : i = xs.length := by rw [← pl.length]; exact hi
              exact g2.wrote sr2 er2 hpl ⟨dx, xs ++ [v], by rw [upd_same, putF_new nd (by rw [← hi']; exact hy')], snocV (pl.mono ew) (hv.mono ew), by
                rw [List.length_append, ← hi, List.length_singleton]
                exact (List.getElem?_eq_some_iff.mp hy').1⟩
            · cases eb
        · cases eb
      · cases eb
    · cases eb
theorem PSet.or {t u : TSet} (h : PSet X t) (k : PSet X u) : PSet X fun o i v H Q => t o i v H Q ∨ u o i v H Q := fun pins s σ H o i v ov iv w Q I r1 r2 r3 q => q.elim (h pins s σ H o i v ov iv w Q I r1 r2 r3) (k pins s σ H o i v ov iv w Q I r1 r2 r3)
theorem q_iset (ok : XOk St T L fad n X sc fnb W) (he : okE e = true) (hc : isLC e = false) (ho : PE X p (rTE L W fb)) (hi : PE X q (rTE L W fc)) (ha : PE X e (rTE L W fa)) (hq : okE q = true) :
    PS X (.Assign [.Subscript p q py] e pos) (rTS L W fun env s => (fa env s).go env fun v s => (fb env s).go env fun d s => (fc env s).go env fun k s => (match setItemD d k v s with | some s => .nx env s | none => .fail)) := by
  have hu := ok.hu
  have pg := pg_sub (pos := py) ho hi (PSet.or set_list (set_dict (X := X) (by omega))) (by
    intro v
    cases q <;> first | rfl | exact Bool.noConfusion (show false = true from hq))
  refine (ps_asg (pos := pos) ha pg (by unfold swapsWithSole; exact swap_ok he hc) (by cases e <;> rfl)).weak fun D σ H ⟨ρ, s, env, sr, er, g⟩ => ?_
  refine ⟨ρ, s, env, sr, er, (Good.go (rel := VR L.K) g er).imp fun v H1 ⟨ρ1, s1, d, e1, sr1, h1, g1⟩ => ?_⟩
  have er1 := er.mono e1
  refine ⟨ρ1, s1, env, sr1, er1, (Good.go (rel := VR L.K) g1 er1).imp fun u H2 ⟨ρ2, s2, d2, e2, sr2, h2, g2⟩ => ?_⟩
  have er2 := er1.mono e2
  refine ⟨ρ2, s2, env, sr2, er2, (Good.go (rel := VR L.K) g2 er2).imp fun w H3 ⟨ρ3, s3, d3, e3, sr3, h3, g3⟩ => ?_⟩
  have er3 := er2.mono e3
  have hv := h1.mono (e2.trans e3)
  have ho := h2.mono e3
  cases eb : setItemD d2 d3 d s3 with
  | none => rw [eb] at g3; exact g3.elim
  | some s4 =>
    rw [eb] at g3
    unfold setItemD at eb
    split at eb
    · rename_i m
      split at eb
      · rename_i l hn
        obtain ⟨a, rfl, hpl, xs, hH, pl⟩ := sr3.at ho hn (by intro z; cases z)
        split at eb
        · rename_i k
          obtain rfl := h3.int
          cases ej : ixN l.length k with
          | none => rw [ej] at eb; cases eb
          | some j =>
            rw [ej] at eb; cases eb
            have ew := Ex.write (o := .lst (xs.set j v)) (H := H3) (List.mem_of_getElem? hpl)
            exact .inl ⟨a, xs, k, j, rfl, rfl, hH, by rw [← pl.length]; exact ej, g3.wrote sr3 er3 hpl ⟨_, upd_same, pset (hv.mono ew) j (pl.mono ew)⟩⟩
        · cases eb
      · rename_i l hn
        obtain ⟨a, rfl, hpl, xs, hH, pl⟩ := sr3.at ho hn (by intro z; cases z)
        cases ek : keyD d3 with
        | none => rw [ek] at eb; cases eb
        | some k =>
          rw [ek] at eb
          simp only [Option.bind_some] at eb
          split at eb
          · rename_i hl
            cases eb
            obtain rfl := keyD_ok h3 ek
            have ew := Ex.write (o := .dK (putK xs k v)) (H := H3) (List.mem_of_getElem? hpl)
            exact .inr ⟨a, _, rfl, DPut.k hH (by rw [← pl.length]; exact hl), g3.wrote sr3 er3 hpl ⟨_, upd_same, setK_ok (hv.mono ew) (pl.mono ew)⟩⟩
          · cases eb
      · rename_i l hn
        obtain ⟨a, rfl, hpl, xs, hH, pl⟩ := sr3.at ho hn (by intro z; cases z)
        cases ek : keyT d3 with
        | none => rw [ek] at eb; cases eb
        | some k =>
          rw [ek] at eb
          simp only [Option.bind_some] at eb
          split at eb
          · rename_i hl
            cases eb
            obtain ⟨b, rfl, hb⟩ := keyT_ok h3 ek
            have ew := Ex.write (o := .dT (putK xs k v)) (H := H3) (List.mem_of_getElem? hpl)
            exact .inr ⟨a, _, rfl, DPut.t hH hb (by rw [← pl.length]; exact hl), g3.wrote sr3 er3 hpl ⟨_, upd_same, setK_ok (hv.mono ew) (pl.mono ew)⟩⟩
          · cases eb
      · cases eb
    · cases eb
theorem q_ret (ha : PE X e (rTE L W fa)) : PS X (.Return (some e) pos) (rTS L W fun env s => (fa env s).go env fun d s => .rt d s) :=
  (ps_ret ha).weak fun D σ H ⟨ρ, s, env, sr, er, g⟩ => ⟨ρ, s, env, sr, er, (Good.go (rel := VR L.K) g er).imp fun v H1 ⟨ρ1, s1, d, e1, sr1, h1, g1⟩ => g1 ρ1 H1 v Ex.refl sr1 h1⟩
theorem q_retN : PS X (.Return none pos) (rTS L W fun _ s => .rt (.f .non) s) := ps_retN.weak fun D σ H ⟨ρ, s, env, sr, er, g⟩ => g ρ H _ Ex.refl sr vNon
theorem q_ex (he : okE e = true) (hc : isLC e = false) (ha : PE X e (rTE L W fa)) : PS X (.Expr e pos) (rTS L W fun env s => (fa env s).go env fun _ s => .nx env s) :=
  (ps_expr ha (swap_ok he hc)).weak fun D σ H ⟨ρ, s, env, sr, er, g⟩ => ⟨ρ, s, env, sr, er, (Good.go (rel := VR L.K) g er).imp fun v H1 ⟨ρ1, s1, d, e1, sr1, h1, g1⟩ => g1 ρ1 σ H1 Ex.refl sr1 (er.mono e1)⟩
theorem q_ite {f1 f2 : Env' → Sto → O} {a b : List Stmt} (hc : PT X e (rTT L W fc)) (ha : PSs X a (rTS L W f1)) (hb : PSs X b (rTS L W f2)) :
    PS X (.If e a b pos) (rTS L W fun env s => (fc env s).go env fun d s => (match d with | .f (.bl true) => f1 env s | .f (.bl false) => f2 env s | _ => .fail)) := by
  refine (ps_if hc ha hb).weak fun D σ H ⟨ρ, s, env, sr, er, g⟩ => ⟨ρ, s, env, sr, er, ?_⟩
  refine (GoodB.go (f := fun b s => if b then f1 env s else f2 env s) g er (fun d s => ?_)).imp fun c H1 ⟨ρ1, s1, e1, sr1, g1⟩ => ?_
  · cases d with
    | f x => cases x with
      | bl b => cases b <;> rfl
      | _ => rfl
    | _ => rfl
  · cases c with
    | true => exact ⟨ρ1, s1, env, sr1, er.mono e1, g1⟩
    | false => exact ⟨ρ1, s1, env, sr1, er.mono e1, g1⟩
/-! ### loops -/
theorem for_read {p : Pat} {fi : Env' → Sto → R (List JM.D)} {fb : Env' → Sto → O} {D : Ends} {σ : L2.St} {H : Hp}
    (h : rTS L W (fun env s => (fi env s).go env fun items s => forR (fun x env s => match bindP p x s env with | some env' => fb env' s | none => .fail) items env s) D σ H) : tFor (rTI L W fi) (gPat L.K p) (rTS L W fb) D σ H := by
  obtain ⟨ρ, s, env, sr, er, g⟩ := h
  refine ⟨ρ, s, env, sr, er, (Good.go (rel := JR L) g er).imp fun J H1 ⟨ρ1, s1, items, e1, sr1, jr, g1⟩ => ?_⟩
  generalize hf : (fun (x : JM.D) (env : Env') (s : Sto) => match bindP p x s env with | some env' => fb env' s | none => O.fail) = f at g1
  let P : Nat → L2.St → Hp → Prop := fun i σ' H' => ∃ ρ' s' env', Ex ρ1 H1 ρ' H' ∧ SR L ρ' s' H' ∧ ER L.K ρ' H' env' σ' ∧ GoodO L W D ρ' H' (forR f (items.drop i) env' s')
  refine ⟨fun i m σ' H' => m = items.length - i ∧ i ≤ items.length ∧ P i σ' H', ⟨items.length, rfl, Nat.zero_le _, ρ1, s1, env, Ex.refl, sr1, er.mono e1, g1⟩, ?_⟩
  rintro i m σ' H' ⟨rfl, hi, ρ', s', env', ex', sr', er', g'⟩
  obtain ⟨jr1, jr2⟩ := jr ρ' s' H' ex' sr' i
  by_cases hlt : i < items.length
  · have hd : items[i]? = some items[i] := by simp [hlt]
    obtain ⟨hgo, hy⟩ := jr1 _ hd
    rw [List.drop_eq_getElem_cons hlt] at g'
    refine .inr ⟨hgo, P (i + 1), fun σ2 H2 h => ⟨items.length - (i + 1), by omega, rfl, hlt, h⟩, fun x H2 y => ?_⟩
    obtain ⟨ex2, sr2, vr2⟩ := hy x H2 y
    unfold forR at g'
    have ef : f items[i] env' s' = (match bindP p items[i] s' env' with | some env' => fb env' s' | none => .fail) := by rw [← hf]
    rw [ef] at g'
    cases bp : bindP p items[i] s' env' with
    | none => rw [bp] at g'; exact g'.elim
    | some env2 =>
      rw [bp] at g'
      refine gPat_ok bp vr2 (er'.mono ex2) fun σ2 er2 _ => ⟨ρ', s', env2, sr2, er2, ?_⟩
      have g2 := GoodO.later g' ex2
      simp only at g2
      cases eo : fb env2 s' with
      | nx e3 s3 => rw [eo] at g2; exact fun ρ3 σ3 H3 x3 sr3 er3 => ⟨ρ3, s3, e3, (ex'.trans ex2).trans x3, sr3, er3, GoodO.later g2 x3⟩
      | ct e3 s3 => rw [eo] at g2; exact fun ρ3 σ3 H3 x3 sr3 er3 => ⟨ρ3, s3, e3, (ex'.trans ex2).trans x3, sr3, er3, GoodO.later g2 x3⟩
      | bk e3 s3 => rw [eo] at g2; exact g2
      | rt d s3 => rw [eo] at g2; exact g2
      | exc x e3 s3 => rw [eo] at g2; exact g2
      | fail => rw [eo] at g2; exact g2.elim
  · have e : i = items.length := by omega
    subst e
    rw [List.drop_length] at g'
    exact .inl ⟨jr2 (Nat.le_refl _), g' ρ' σ' H' Ex.refl sr' er'⟩
theorem q_for (ok : XSt St T L fad n X sc fnb W) {pt : Pat} {fi : Env' → Sto → R (List JM.D)} {fb : Env' → Sto → O} {b : List Stmt} (hg : mP X.N sc fnb pt tg = true) (hi : PI X tg e (rTI L W fi)) (he : okE e = true) (hb : PSs X b (rTS L W fb)) :
    PS X (.For tg e b [] pos) (rTS L W fun env s => (fi env s).go env fun items s => forR (fun x env s => match bindP pt x s env with | some env' => fb env' s | none => .fail) items env s) := by
  have pg := mP_ok ok.ok.calm ok.ok.nd ok.ok.sc ok.ok.fnl hg
  rw [ok.ok.K] at pg
  exact (ps_for ok.po ok.ok.calm hi pg hb (fold_ok he)).weak fun D σ H h => for_read h
theorem q_while (ok : XSt St T L fad n X sc fnb W) {fb : Env' → Sto → O} {b : List Stmt} (hc : PT X e (rTT L W fc)) (hb : PSs X b (rTS L W fb)) :
    PS X (.While e b [] pos) (rTS L W fun env s => whileR fc fb env s) := by
  refine (ps_while ok.po hc hb).weak fun D σ H ⟨ρ, s, env, sr, er, g⟩ => ?_
  refine ⟨fun m σ' H' => ∃ ρ' s' env', SR L ρ' s' H' ∧ ER L.K ρ' H' env' σ' ∧ GoodO L W D ρ' H' (whileN fc fb m env' s'), ?_, ?_⟩
  · dsimp only at g
    unfold whileR at g
    split at g
    · exact ⟨_, ρ, s, env, sr, er, g⟩
    · exact g.elim
  · rintro m σ' H' ⟨ρ', s', env', sr', er', g'⟩
    cases m with
    | zero => exact g'.elim
    | succ m =>
      unfold whileN at g'
      refine ⟨ρ', s', env', sr', er', ?_⟩
      refine (GoodB.go (f := fun b s => if b then (match fb env' s with | .nx env s => whileN fc fb m env s | .ct env s => whileN fc fb m env s | .bk env s => .nx env s | o => o) else .nx env' s) g' er' (fun d s => ?_)).imp fun c H1 ⟨ρ1, s1, e1, sr1, g1⟩ => ?_
      · cases d with
        | f x => cases x with
          | bl b => cases b <;> rfl
          | _ => rfl
        | _ => rfl
      · cases c with
        | false => exact iteF (g1 ρ1 σ' H1 Ex.refl sr1 (er'.mono e1))
        | true =>
          refine iteT ⟨fun σ2 H2 => ∃ ρ2 s2 env2, SR L ρ2 s2 H2 ∧ ER L.K ρ2 H2 env2 σ2 ∧ GoodO L W D ρ2 H2 (whileN fc fb m env2 s2), fun σ2 H2 h => ⟨m, Nat.lt_succ_self m, h⟩, ρ1, s1, env', sr1, er'.mono e1, ?_⟩
          simp only [if_true] at g1
          cases eo : fb env' s1 with
          | nx e3 s3 => rw [eo] at g1; exact fun ρ3 σ3 H3 x3 sr3 er3 => ⟨ρ3, s3, e3, sr3, er3, GoodO.later g1 x3⟩
          | ct e3 s3 => rw [eo] at g1; exact fun ρ3 σ3 H3 x3 sr3 er3 => ⟨ρ3, s3, e3, sr3, er3, GoodO.later g1 x3⟩
          | bk e3 s3 => rw [eo] at g1; exact g1
          | rt d s3 => rw [eo] at g1; exact g1
          | exc x e3 s3 => rw [eo] at g1; exact g1
          | fail => rw [eo] at g1; exact g1.elim
theorem q_nil : PSs X [] (rTS L W fun env s => .nx env s) := pss_nil.weak fun D σ H ⟨ρ, s, env, sr, er, g⟩ => g ρ σ H Ex.refl sr er
theorem q_cons {x : Stmt} {xs : List Stmt} {f g : Env' → Sto → O} (h : PS X x (rTS L W f)) (k : PSs X xs (rTS L W g)) : PSs X (x :: xs) (rTS L W fun env s => (f env s).bind g) :=
  (pss_cons h k).weak fun D σ H ⟨ρ, s, env, sr, er, gg⟩ => ⟨ρ, s, env, sr, er, GoodO.bind gg⟩
end rules
end JM

set_option autoImplicit false
/-! J17: statements that are matched; defs. -/
namespace JM
open PySem PySem.Spec PyProof.Rows L2
section all
variable {St : Stat} {T : Tb} {L : Lk} {fad : Nat → Addr} {n : Nat}
theorem q_setLc {X : Cx} {sc : Scope} {fnb : Str → Bool} {W : WX} (ok : XOk St T L fad n X sc fnb W) {i : Nat} {y : Str} {py : Pos} {m : Bool} {p : Pat} {c : Option (Env' → Sto → R D)} {fe : Env' → Sto → R D} {fi : Env' → Sto → R (List D)} {elt tg iter : Expr} {ifs : List Expr} {scope : Scope} {own : List (Str × Nat)} {pos spos : Pos}
    (hy : X.N[i]? = some y) (hln0 : lineB sc y py (.ListComp elt [⟨tg, iter, ifs, 0⟩] scope pos) = true) (hnl : notLocB sc y = false) (hi : PI X tg iter (rTI L W fi)) (bok : BlkOk X.N X.env.scope scope own) (hv : own.map (·.2) = p.slots)
    (hg : ∀ (s : Shared) (H : Hp) (C : Addr) (cl : List (Str × Addr)) (fp : List Addr), PG (X.blk s H scope (compEnvC scope cl C X.env) fp) tg (gPat L.K p))
    (ht : ∀ (s : Shared) (H : Hp) (C : Addr) (cl : List (Str × Addr)) (fp : List Addr), PTs (X.blk s H scope (compEnvC scope cl C X.env) fp) ifs (tcC L c))
    (he : ∀ (s : Shared) (H : Hp) (C : Addr) (cl : List (Str × Addr)) (fp : List Addr), PE (X.blk s H scope (compEnvC scope cl C X.env) fp) elt (rTE L nW fe)) (hs : okE iter = true) :
    PS X (.Assign [.Name y py] (.ListComp elt [⟨tg, iter, ifs, 0⟩] scope pos) spos) (rTS L W fun env s => (lcR fi m p c fe env s).go env fun d s => .nx (env.set i (some d)) s) := by
  have hln := hln0
  unfold lineB at hln
  rw [hnl] at hln
  simp only [Bool.false_or, Bool.and_eq_true, Bool.not_eq_true'] at hln
  obtain ⟨⟨⟨l0, l1⟩, l2⟩, l3⟩ := hln
  have hk : X.env.scope.kind = .function := by
    rw [ok.sc]
    split at l0
    · assumption
    · cases l0
  have hyl : X.env.scope.names.lookup y = some .local := by
    rw [ok.sc]
    split at l1
    · assumption
    · cases l1
  refine (ps_setLc ok.calm ok.nd hy hyl (sw_true hk hyl l2 l3) hi bok hg ht he (fold_ok hs)).weak fun D σ H h => ?_
  have h2 := go_set h
  have h3 : tLc (rTI L W fi) (gPat L.K p) (tcC L c) (rTE L nW fe) p.slots σ H (fun x H1 => gName i x σ H1 D.nx) := lc_read h2
  rw [← hv] at h3
  exact h3
def SS (St : Stat) (T : Tb) (L : Lk) (fad : Nat → Addr) (n : Nat) (e : S) : Prop := ∀ {X : Cx} {sc : Scope} {fnb : Str → Bool} {W : WX} {x : Stmt}, XSt St T L fad n X sc fnb W → mS St X.N e sc fnb x = true →
  PS X x (rTS L W (exS (callF T n) (callM T n) T.sub e))
def SSs (St : Stat) (T : Tb) (L : Lk) (fad : Nat → Addr) (n : Nat) (e : List S) : Prop := ∀ {X : Cx} {sc : Scope} {fnb : Str → Bool} {W : WX} {x : List Stmt}, XSt St T L fad n X sc fnb W → mSs St X.N e sc fnb x = true →
  PSs X x (rTS L W (exSs (callF T n) (callM T n) T.sub e))
theorem t_set (i : Nat) (e : E) : SS St T L fad n (.set i e) := by
  (intro X sc fnb W x ok h; unfold mS at h; first | (cases h; done) | (split at h <;> first | (cases h; done) | skip); all_goals (try simp only [Bool.and_eq_true, Bool.not_eq_true', decide_eq_true_eq] at h))
  obtain ⟨⟨⟨h1, h2⟩, h3⟩, h4⟩ := h
  rename_i y py v pos
  by_cases hv : isLC v = false
  · exact q_set ok.ok h1 h2 (mE_ok h4) hv (sE e ok.ok h4).1
  · cases v <;> first | (exact absurd rfl hv) | skip
    cases e <;> first | (unfold mE at h4; cases h4; done) | skip
    rename_i m it p c e
    by_cases hnl : notLocB sc y = true
    · exact q_set' ok.ok h1 h2 (sw_cell (by rw [ok.ok.sc]; exact hnl)) (sE _ ok.ok h4).1
    have hnl : notLocB sc y = false := by simpa using hnl
    unfold mE at h4
    split at h4
    · rename_i hh
      cases hh
      simp only [Bool.and_eq_true, decide_eq_true_eq] at h4
      obtain ⟨⟨⟨⟨⟨k0, k1⟩, k2⟩, k3⟩, k4⟩, k5⟩ := h4
      subst k0
      have k := lc_ok (sI it) (fun e' _ => sE e') (sE e) ok.ok k1 k2 k3 k4 k5
      refine rTS_eq (q_setLc (i := i) (m := m) ok.ok (nmB_ok h1) h3 hnl k.hi k.bok own_slots k.hg k.ht k.he k.oi) fun env s => ?_
      show (evE (callF T n) (callM T n) (.lc m it p c e) env s).go env _ = _
      rw [lc_eq env s]
    · cases h4
theorem t_unp (l : List Nat) (e : E) : SS St T L fad n (.unp l e) := by
  (intro X sc fnb W x ok h; unfold mS at h; first | (cases h; done) | (split at h <;> first | (cases h; done) | skip); all_goals (try simp only [Bool.and_eq_true, Bool.not_eq_true', decide_eq_true_eq] at h))
  obtain ⟨⟨⟨h1, h2⟩, h3⟩, h4⟩ := h
  exact q_unp ok.ok (mE_ok h4) h1 h2 h3 (sE e ok.ok h4).1
theorem t_fset (c i : Nat) (o e : E) : SS St T L fad n (.fset c i o e) := by
  (intro X sc fnb W x ok h; unfold mS at h; first | (cases h; done) | (split at h <;> first | (cases h; done) | skip); all_goals (try simp only [Bool.and_eq_true, Bool.not_eq_true', decide_eq_true_eq] at h))
  obtain ⟨⟨⟨h1, h2⟩, h3⟩, h4⟩ := h
  split at h2
  · rename_i cd hcd
    exact q_fset ok.ok hcd (nmB_ok h2) (mE_ok h4) h1 (sE o ok.ok h3).1 (sE e ok.ok h4).1
  · cases h2
theorem t_iset (o i e : E) : SS St T L fad n (.iset o i e) := by
  (intro X sc fnb W x ok h; unfold mS at h; first | (cases h; done) | (split at h <;> first | (cases h; done) | skip); all_goals (try simp only [Bool.and_eq_true, Bool.not_eq_true', decide_eq_true_eq] at h))
  obtain ⟨⟨⟨h1, h2⟩, h3⟩, h4⟩ := h
  exact q_iset ok.ok (mE_ok h4) h1 (sE o ok.ok h2).1 (sE i ok.ok h3).1 (sE e ok.ok h4).1 (mE_ok h3)
theorem t_ret (e : E) : SS St T L fad n (.ret e) := by
  (intro X sc fnb W x ok h; unfold mS at h; first | (cases h; done) | (split at h <;> first | (cases h; done) | skip); all_goals (try simp only [Bool.and_eq_true, Bool.not_eq_true', decide_eq_true_eq] at h))
  exact q_ret (sE e ok.ok h).1
theorem t_retN : SS St T L fad n .retN := by
  (intro X sc fnb W x ok h; unfold mS at h; first | (cases h; done) | (split at h <;> first | (cases h; done) | skip); all_goals (try simp only [Bool.and_eq_true, Bool.not_eq_true', decide_eq_true_eq] at h))
  exact q_retN
theorem t_ex (e : E) : SS St T L fad n (.ex e) := by
  (intro X sc fnb W x ok h; unfold mS at h; first | (cases h; done) | (split at h <;> first | (cases h; done) | skip); all_goals (try simp only [Bool.and_eq_true, Bool.not_eq_true', decide_eq_true_eq] at h))
  exact q_ex (mE_ok h.2) h.1 (sE e ok.ok h.2).1
theorem t_ite (c : E) (a b : List S) (ha : SSs St T L fad n a) (hb : SSs St T L fad n b) : SS St T L fad n (.ite c a b) := by
  (intro X sc fnb W x ok h; unfold mS at h; first | (cases h; done) | (split at h <;> first | (cases h; done) | skip); all_goals (try simp only [Bool.and_eq_true, Bool.not_eq_true', decide_eq_true_eq] at h))
  obtain ⟨⟨⟨h1, h2⟩, h3⟩, h4⟩ := h
  exact q_ite ((sE c ok.ok h2).2 h1) (ha ok h3) (hb ok h4)
theorem t_for (p : Pat) (it : It) (b : List S) (hb : SSs St T L fad n b) : SS St T L fad n (.for_ p it b) := by
  (intro X sc fnb W x ok h; unfold mS at h; first | (cases h; done) | (split at h <;> first | (cases h; done) | skip); all_goals (try simp only [Bool.and_eq_true, Bool.not_eq_true', decide_eq_true_eq] at h))
  obtain ⟨⟨h1, h2⟩, h3⟩ := h
  obtain ⟨k1, k2⟩ := sI it ok.ok h2
  exact q_for ok h1 k1 k2 (hb ok h3)
theorem t_while (c : E) (b : List S) (hb : SSs St T L fad n b) : SS St T L fad n (.while_ c b) := by
  (intro X sc fnb W x ok h; unfold mS at h; first | (cases h; done) | (split at h <;> first | (cases h; done) | skip); all_goals (try simp only [Bool.and_eq_true, Bool.not_eq_true', decide_eq_true_eq] at h))
  obtain ⟨⟨h1, h2⟩, h3⟩ := h
  exact q_while ok ((sE c ok.ok h2).2 h1) (hb ok h3)
theorem t_brk : SS St T L fad n .brk := by
  (intro X sc fnb W x ok h; unfold mS at h; first | (cases h; done) | (split at h <;> first | (cases h; done) | skip); all_goals (try simp only [Bool.and_eq_true, Bool.not_eq_true', decide_eq_true_eq] at h))
  exact ps_break.weak fun D σ H ⟨ρ, s, env, sr, er, g⟩ => g ρ σ H Ex.refl sr er
theorem t_cnt : SS St T L fad n .cnt := by
  (intro X sc fnb W x ok h; unfold mS at h; first | (cases h; done) | (split at h <;> first | (cases h; done) | skip); all_goals (try simp only [Bool.and_eq_true, Bool.not_eq_true', decide_eq_true_eq] at h))
  exact ps_continue.weak fun D σ H ⟨ρ, s, env, sr, er, g⟩ => g ρ σ H Ex.refl sr er
theorem t_pas : SS St T L fad n .pas := by
  (intro X sc fnb W x ok h; unfold mS at h; first | (cases h; done) | (split at h <;> first | (cases h; done) | skip); all_goals (try simp only [Bool.and_eq_true, Bool.not_eq_true', decide_eq_true_eq] at h))
  · exact ps_pass.weak fun D σ H ⟨ρ, s, env, sr, er, g⟩ => g ρ σ H Ex.refl sr er
  · exact ps_doc.weak fun D σ H ⟨ρ, s, env, sr, er, g⟩ => g ρ σ H Ex.refl sr er
theorem exB_ok {i : Nat} {y : Str} (h : exB St i y = true) : St.exs[i]? = some y := by
  unfold exB at h
  split at h
  · rename_i z hz; rw [hz, of_decide_eq_true h]
  · cases h
theorem t_raise (i : Nat) : SS St T L fad n (.raise i) := by
  (intro X sc fnb W x ok h; unfold mS at h; first | (cases h; done) | (split at h <;> first | (cases h; done) | skip); all_goals (try simp only [Bool.and_eq_true, Bool.not_eq_true', decide_eq_true_eq] at h))
  obtain ⟨h1, h2⟩ := h
  obtain ⟨k1, k2, k3, k4, k5⟩ := ok.ok.lk.exc _ _ (exB_ok h2)
  obtain ⟨g1, g2, g3⟩ := glB_ok ok.ok.sc h1
  exact (ps_raise ok.ok.calm ok.ok.tk (L2.pmk_own (X := X) PySem.F.excBase_ValueError (by rw [ok.ok.K]; exact k2) k1 (by rw [ok.ok.K]; exact k3) (raises_own (by rw [ok.ok.K]; exact k4) (by rw [ok.ok.K]; exact k5)) g1 g2)).weak fun D σ H ⟨ρ, s, env, sr, er, g⟩ => g ρ σ H Ex.refl sr er
theorem tryHd_ok {x : Stmt} {body : List Stmt} {y : Str} {n : Option Str} {v : Expr} (h : tryHd x = some (body, y, n, v)) : ∃ p1 p2 p3 p4, x = .Try body [.ExceptHandler (some (.Name y p1)) n [.Return (some v) p2] p3] [] [] p4 := by
  unfold tryHd at h
  split at h
  · cases h; exact ⟨_, _, _, _, rfl⟩
  · cases h
section try_
variable {X : Cx} {sc : Scope} {fnb : Str → Bool} {W : WX} {body : List Stmt} {y : Str} {np rp pos' pos : Pos} {j : Nat} {f : Env' → Sto → O}
theorem names_of (ok : XSt St T L fad n X sc fnb W) (hg : glB sc y = true) (he : exB St j y = true) : Names X y (.ref (L.xad j)) := by
  obtain ⟨g1, g2, g3⟩ := glB_ok ok.ok.sc hg
  exact ⟨g1, g2, .inl (ok.ok.lk.exc _ _ (exB_ok he)).1⟩
/-- what is caught, and what is not -/
theorem caught (ok : XSt St T L fad n X sc fnb W) (he : exB St j y = true) {D : Ends} {ρ ρ' : Ro} {H H' : Hp} {σ' : L2.St} {z : Nat} {env : Env'} {s : Sto} {o : O} {P : Prop} (g : GoodO L W D ρ H (if T.sub z z then (if T.sub z j then o else .exc z env s) else .fail))
    (ex : Ex ρ H ρ' H') (sr : SR L ρ' s H') (er : ER L.K ρ' H' env σ') (hp : GoodO L W D ρ H o → T.sub z z = true → P) : ∃ b, PySem.W.exmOne X.K (.ref (L.xad z)) (.ref (L.xad j)) = some b ∧ (b = true → P) ∧ (b = false → W (.ref (L.xad z)) none σ' H') := by
  cases hz : T.sub z z with
  | false => rw [hz] at g; exact g.elim
  | true =>
    rw [hz, if_pos rfl] at g
    obtain ⟨a, ha⟩ := ok.ok.lk.rng z hz
    refine ⟨T.sub z j, by rw [ok.ok.K]; exact ok.ok.lk.sub _ _ _ _ ha (exB_ok he), fun hb => ?_, fun hb => ?_⟩
    · rw [hb, if_pos rfl] at g; exact hp g hz
    · rw [hb, if_neg (by decide)] at g; exact g ρ' σ' H' ex sr er
theorem q_try0 (ok : XSt St T L fad n X sc fnb W) (hg : glB sc y = true) (he : exB St j y = true) {d : F} {c : Const} {k : Nat} {p : Pos} (hl : litB d c = true)
    (hb : ∀ (W : WX) (pn : List (Addr × Obj)) (xe : Value → Shared → Prop), Takes (X.tr pn xe) W → PassesOwn (model X.prog X.w) X.A X.env xe → PSs (X.tr pn xe) body (rTS L W f)) :
    PS X (.Try body [.ExceptHandler (some (.Name y np)) none [.Return (some (.Constant c k p)) rp] pos'] [] [] pos) (rTS L W fun env s => match f env s with | .exc z env s => (if T.sub z z then (if T.sub z j then .rt (.f d) s else .exc z env s) else .fail) | o => o) := by
  refine (ps_try_only (ts := fun _ _ _ => rTS L nW fun _ s => .rt (.f d) s) ok.hs ok.hf (names_of ok hg he) ok.ok.tk hb (fun a oe cls d' pn hz hf => ?_)).weak fun D σ H ⟨ρ, s, env, sr, er, g⟩ => ⟨ρ, s, env, sr, er, ?_⟩
  · exact pss_one (rTS_eq (q_ret (r_k hl)) fun env s => rfl)
  · dsimp only at g
    cases e : f env s with
    | exc z env1 s1 =>
      rw [e] at g
      exact fun ρ' σ' H' ex sr' er' => caught ok he g ex sr' er' fun g2 _ a ha => ⟨ρ', s1, env1, sr', er', fun ρ2 H2 v x2 sr2 hv => g2 ρ2 H2 v (ex.trans x2) sr2 hv⟩
    | nx env1 s1 => rw [e] at g; exact g
    | rt d1 s1 => rw [e] at g; exact g
    | bk env1 s1 => rw [e] at g; exact g
    | ct env1 s1 => rw [e] at g; exact g
    | fail => rw [e] at g; exact g.elim
/-- isinstance(e, C) in the clause -/
def tIsE (k : Nat) (a : Addr) (b : Bool) : TE := fun σ H Q => σ[k]? = some (some (.ref a)) ∧ Q (.bl b) H
theorem pe_isB (ok : XSt St T L fad n X sc fnb W) {z : Str} {e : E} {x : Expr} (h : isB St sc z e x = true) {k : Nat} (hk : nmB X.N k z = true) {y : Nat} {w : Str} (hy : St.exs[y]? = some w) {a : Addr} {oe : Obj} {pn : List (Addr × Obj)} (hz : Zc (.ref (L.xad y)) none oe) (hf : ∃ vs, oe.data = .fields vs) :
    PE (X.suite a ((a, oe) :: pn)) x (tIsE k a (isCls T.sub y e)) := by
  obtain ⟨i1, i2, i3⟩ := ok.ok.lk.isx _ _ hy
  unfold isB at h
  split at h
  · rename_i y1 q1 z1 q2 c q3 q4
    simp only [Bool.and_eq_true, decide_eq_true_eq] at h
    obtain ⟨⟨⟨⟨rfl, h2⟩, rfl⟩, h4⟩, h5⟩ := h
    obtain ⟨g1, g2, g3, g4⟩ := freeB_ok ok.ok h2
    unfold visB at h4
    simp only [Bool.and_eq_true, Bool.not_eq_true'] at h4
    obtain ⟨⟨v1, v2⟩, v3⟩ := h4
    have hv : Vis X.env.scope z1 := by
      unfold Vis
      rw [ok.ok.sc]
      split at v1
      · exact .inl (by assumption)
      · exact .inr (.inl (by assumption))
      · exact .inr (.inr (by assumption))
      · cases v1
    have p1 : PE (X.suite a ((a, oe) :: pn)) (.Name z1 q2) (tVar k) := pe_var (X := X.suite a ((a, oe) :: pn)) (nmB_ok hk) hv v2 v3
    have key : ∃ (v : V) (cv : Value), PE (X.suite a ((a, oe) :: pn)) (.Name c q3) (tC v) ∧ (∀ u, RelV v u → u = cv) ∧ PySem.W.kitOne X.K (.ref (L.xad y)) cv = some (isCls T.sub y e) := by
      cases e with
      | k d =>
        cases d with
        | int i =>
          unfold isC at h5
          simp only [Bool.and_eq_true] at h5
          obtain ⟨l1, l2, _⟩ := glB_ok ok.ok.sc h5.1
          have ke := exB_ok h5.2
          obtain ⟨m1, _⟩ := ok.ok.lk.exc _ _ ke
          exact ⟨.ref (L.xad i.toNat), .ref (L.xad i.toNat), pe_glob (X := X.suite a ((a, oe) :: pn)) l1 m1 rfl l2, fun u r => r, by rw [ok.ok.K]; exact i3 _ _ ke⟩
        | non =>
          unfold isC at h5
          simp only [Bool.and_eq_true, decide_eq_true_eq] at h5
          obtain ⟨rfl, h6⟩ := h5
          obtain ⟨l1, l2, l3, l4⟩ := freeB_ok ok.ok h6
          exact ⟨.ty "ValueError", .type "ValueError", pe_bltn (X := X.suite a ((a, oe) :: pn)) l1 l2 (by decide +kernel) rfl l3 l4, fun u r => r, by rw [ok.ok.K]; exact i2⟩
        | _ => cases h5
      | _ => cases h5
    obtain ⟨v, cv, p2, hv2, hk2⟩ := key
    have C : ExcC (X.suite a ((a, oe) :: pn)).K (L.xad y) := by
      show ExcC X.K _
      rw [ok.ok.K]; exact i1
    refine (pe_callB (X := X.suite a ((a, oe) :: pn)) (call_isE (X := X) C hz hf) g1 g2 (by decide +kernel) (pa_cons p1 (pa_cons p2 pa_nil rfl) rfl) g3 g4 rfl rfl).weak fun σ H Q ⟨hs, q⟩ => ?_
    exact ⟨.ref a, hs, v, cv, _, rfl, hv2, hk2, q⟩
  · cases h
theorem q_try1 (ok : XSt St T L fad n X sc fnb W) (hg : glB sc y = true) (he : exB St j y = true) {k : Nat} {z : Str} {e1 e2 : E} {a b : Expr} {p : Pos} (hk : nmB X.N k z = true) (hl : locX sc z = true) (h1 : isB St sc z e1 a = true) (h2 : isB St sc z e2 b = true)
    (hb : ∀ (W : WX) (pn : List (Addr × Obj)) (xe : Value → Shared → Prop), Takes (X.tr pn xe) W → PassesOwn (model X.prog X.w) X.A X.env xe → PSs (X.tr pn xe) body (rTS L W f)) :
    PS X (.Try body [.ExceptHandler (some (.Name y np)) (some z) [.Return (some (.BoolOp .And [a, b] p)) rp] pos'] [] [] pos)
      (rTS L W fun env s => match f env s with | .exc z env s => (if T.sub z z then (if T.sub z j then .rt (.f (.bl ([e1, e2].all (isCls T.sub z)))) s else .exc z env s) else .fail) | o => o) := by
  have hln : X.env.kindOf z = some .local := by
    show X.env.scope.names.lookup z = some .local
    rw [ok.ok.sc]
    unfold locX at hl
    split at hl
    · assumption
    · cases hl
  refine (ps_try_as (i := k) (ts := fun a cls d D σ H => ∃ (y : Nat) (w : Str) (σ0 : L2.St), cls = .ref (L.xad y) ∧ d = none ∧ St.exs[y]? = some w ∧ σ = σ0.set k (some (.ref a)) ∧ D.rt (.bl ([e1, e2].all (isCls T.sub y))) H) ok.hs ok.hf ok.ok.nd (nmB_ok hk) hln (names_of ok hg he) ok.ok.tk hb (fun a' oe cls d' pn hz hf => ?_)).weak fun D σ H ⟨ρ, s, env, sr, er, g⟩ => ⟨ρ, s, env, sr, er, ?_⟩
  · refine ⟨fun pins s σ H D I ⟨y, w, σ0, ec, ed, hy, es, q⟩ => ?_⟩
    subst ec ed
    have hs : σ[k]? = some (some (.ref a')) := by
      have hl : σ.length = X.N.length := I.len
      have hk' : k < X.N.length := (List.getElem?_eq_some_iff.mp (nmB_ok hk)).1
      rw [es, List.length_set] at hl
      rw [es, List.getElem?_set_self (by omega)]
    have pa := pe_isB ok h1 hk hy (a := a') (pn := pn) hz hf
    have pb := pe_isB ok h2 hk hy (a := a') (pn := pn) hz hf
    refine (pss_one (ps_ret (pe_and pa (pe_one pb)))).run pins s σ H D I ?_
    refine ⟨hs, isCls T.sub y e1, rfl, ?_⟩
    simp only [List.all_cons, List.all_nil, Bool.and_true] at q
    cases q1 : isCls T.sub y e1 with
    | false => rw [q1] at q; exact q
    | true => rw [q1] at q; exact ⟨hs, q⟩
  · dsimp only at g
    cases e : f env s with
    | exc z env1 s1 =>
      rw [e] at g
      refine fun ρ' σ' H' ex sr' er' => caught ok he g ex sr' er' fun g2 hzz a ha => ?_
      obtain ⟨w, hw⟩ := ok.ok.lk.rng z hzz
      exact ⟨z, w, σ', rfl, rfl, hw, rfl, g2 ρ' H' _ ex sr' (vBl _)⟩
    | nx env1 s1 => rw [e] at g; exact g
    | rt d1 s1 => rw [e] at g; exact g
    | bk env1 s1 => rw [e] at g; exact g
    | ct env1 s1 => rw [e] at g; exact g
    | fail => rw [e] at g; exact g.elim
end try_
theorem t_try (b : List S) (j : Nat) (i : Option Nat) (h : List S) (hb : SSs St T L fad n b) : SS St T L fad n (.try_ b j i h) := by
  intro X sc fnb W x ok hm
  unfold mS at hm
  split at hm
  · rename_i body y nm v hx
    obtain ⟨p1, p2, p3, p4, rfl⟩ := tryHd_ok hx
    simp only [Bool.and_eq_true] at hm
    obtain ⟨⟨h1, h2⟩, h3, h4⟩ := hm
    have hbody : ∀ (W : WX) (pn : List (Addr × Obj)) (xe : Value → Shared → Prop), Takes (X.tr pn xe) W → PassesOwn (model X.prog X.w) X.A X.env xe → PSs (X.tr pn xe) body (rTS L W (exSs (callF T n) (callM T n) T.sub b)) := fun W' pn xe tk po =>
      hb (X := X.tr pn xe) ⟨⟨ok.ok.K, ok.ok.lk, ok.ok.fns, ok.ok.mks, ok.ok.nd, ok.ok.sc, ok.ok.calm, ok.ok.room, tk, ok.ok.fnl⟩, po, ok.hs, ok.hf⟩ h3
    unfold hB at h4
    split at h4
    · split at h4
      · refine rTS_eq (q_try0 ok h1 h2 h4 hbody) fun env s => ?_
        show (match exSs (callF T n) (callM T n) T.sub b env s with | .exc y env s => _ | o => o) = _
        cases exSs (callF T n) (callM T n) T.sub b env s <;> rfl
      · cases h4
    · split at h4
      · simp only [Bool.and_eq_true] at h4
        obtain ⟨⟨⟨k1, k2⟩, k3⟩, k4⟩ := h4
        refine rTS_eq (q_try1 ok h1 h2 k1 k2 k3 k4 hbody) fun env s => ?_
        show (match exSs (callF T n) (callM T n) T.sub b env s with | .exc y env s => _ | o => o) = _
        cases exSs (callF T n) (callM T n) T.sub b env s <;> rfl
      · cases h4
    · cases h4
  · cases hm
theorem t_nil : SSs St T L fad n [] := by
  intro X sc fnb W xs ok h
  unfold mSs at h
  cases xs with
  | nil => exact q_nil
  | cons x xs => cases h
theorem t_cons (a : S) (l : List S) (ha : SS St T L fad n a) (hl : SSs St T L fad n l) : SSs St T L fad n (a :: l) := by
  intro X sc fnb W xs ok h
  unfold mSs at h
  cases xs with
  | nil => cases h
  | cons x xs =>
    simp only [Bool.and_eq_true] at h
    exact q_cons (ha ok h.1) (hl ok h.2)
theorem sSs (l : List S) : SSs St T L fad n l := by
  refine S.rec_1 (motive_1 := fun e => SS St T L fad n e) (motive_2 := fun l => SSs St T L fad n l) t_set t_unp t_fset t_iset t_ret t_retN t_ex t_ite t_for t_while t_brk t_cnt t_pas t_raise (fun b x i c hb _ => t_try b x i c hb) t_nil t_cons l
/-! ### defs -/
/-- a def stands as the tables say -/
structure FnDef (St : Stat) (T : Tb) (L : Lk) (fad : Nat → Addr) (f : Nat) : Prop where
  ex : ∃ (x qual : Str) (params : Arguments) (body : List Stmt) (scope : Scope) (fd : FuncData) (ps N : List Str) (F : Fn), FunD L.K x qual params body scope [] [] (fad f) fd ∧ FnScope N ps scope ∧ Binds L.K fd ps [] ∧
    T.fns[f]? = some F ∧ F.nps = ps.length ∧ F.nsl = N.length ∧ mSs St N F.body scope (fun _ => true) body = true
theorem ER.atEntry {K : PySem.W.Frag} {ρ : Ro} {H : Hp} {ds : List D} {vs : List V} {N : List Str} (p : VL K ρ H ds vs) : ER K ρ H (startE N.length ds) (L2.start N vs) := by
  have hl := p.length
  refine ⟨?_, fun i d h => ?_⟩
  · unfold startE L2.start
    rw [List.length_append, List.length_append, List.length_map, List.length_map, List.length_replicate, List.length_replicate, hl]
  · unfold startE at h
    unfold L2.start
    by_cases hi : i < ds.length
    · rw [List.getElem?_append_left (by simpa using hi), List.getElem?_map] at h
      cases e : ds[i]? with
      | none => rw [e] at h; cases h
      | some d' =>
        rw [e] at h
        cases h
        obtain ⟨v, hv, r⟩ := pget p e
        exact ⟨v, by rw [List.getElem?_append_left (by rw [List.length_map, ← hl]; exact hi), List.getElem?_map, hv]; rfl, r⟩
    · rw [List.getElem?_append_right (by simpa using hi), List.getElem?_replicate] at h
      split at h <;> cases h
variable {P : Program} {w : World} {mg : Str → Option Value} {base : Heap}
theorem fn_step (lk : Links P w mg base St T L fad) {n f : Nat} (ih : (∀ f a, St.at_[f]? = some a → FnK P w mg base St T L n f (fad f)) ∧ ∀ m, n = m + 1 → ∀ f a, St.at_[f]? = some a → FnK P w mg base St T L m f (fad f))
    {x qual : Str} {params : Arguments} {body : List Stmt} {scope : Scope} {fd : FuncData} {ps N : List Str} {F : Fn} (h1 : FunD L.K x qual params body scope [] [] (fad f) fd) (h2 : FnScope N ps scope)
    (h4 : T.fns[f]? = some F) (h5 : F.nps = ps.length) (h6 : F.nsl = N.length) (h7 : mSs St N F.body scope (fun _ => true) body = true) : FnOk P w L.K mg base (L2.CX P w) (n + 1) (fad f) fd ps (spF T L (n + 1) f) := by
  have call : ∀ ds s, callF T (n + 1) f ds s = if ds.length = F.nps then (exSs (callF T n) (callM T n) T.sub F.body (startE F.nsl ds) s).res else .fail := fun ds s => by
    show (match T.fns[f]? with | some F => _ | none => _) = _
    rw [h4]
  have len : ∀ vs H Q E, spF T L (n + 1) f vs H Q E → vs.length = ps.length := fun vs H Q E ⟨ρ, s, ds, sr, p, g⟩ => by
    rw [call] at g
    split at g
    · rename_i hl; rw [← p.length, hl, h5]
    · exact g.elim
  refine h1.ok h2 len fun cdv A outer s H vs Q E hr hsp => ?_
  have ok : XSt St T L fad n (cxOf (L2.CX P w) P w L.K mg base N qual scope (fad f) cdv A outer s H E) scope (fun _ => true) (fun cls d _ H => E cls d H) :=
    ⟨⟨rfl, lk, ih.1, ih.2, h2.nd, rfl, rfl, hr, takes_of rfl rfl rfl rfl, fun _ _ => rfl⟩, passes_of rfl, rfl, rfl⟩
  refine ⟨_, sSs F.body ok h7, ?_⟩
  obtain ⟨ρ, st, ds, sr, p, g⟩ := hsp
  rw [call] at g
  split at g
  · refine ⟨ρ, st, startE N.length ds, sr, ER.atEntry p, ?_⟩
    rw [h6] at g
    cases e : exSs (callF T n) (callM T n) T.sub F.body (startE N.length ds) st with
    | nx env s1 => rw [e] at g; exact fun ρ' σ' H' x sr' er' => g ρ' H' .non x sr' vNon
    | rt d s1 => rw [e] at g; exact g
    | bk env s1 => rw [e] at g; exact g.elim
    | ct env s1 => rw [e] at g; exact g.elim
    | exc y env s1 => rw [e] at g; exact fun ρ' σ' H' x sr' er' => g ρ' H' x sr'
    | fail => rw [e] at g; exact g.elim
  · exact g.elim
theorem fn_levels (lk : Links P w mg base St T L fad) (hd : ∀ f a, St.at_[f]? = some a → FnDef St T L fad f) : ∀ n, (∀ f a, St.at_[f]? = some a → FnK P w mg base St T L n f (fad f)) ∧ ∀ m, n = m + 1 → ∀ f a, St.at_[f]? = some a → FnK P w mg base St T L m f (fad f) := by
  intro n
  induction n with
  | zero =>
    refine ⟨fun f a ha => ?_, fun m e => by cases e⟩
    obtain ⟨x, qual, params, body, scope, fd, ps, N, F, h1, h2, h3, h4, h5, h6, h7⟩ := (hd f a ha).ex
    refine ⟨⟨fd, ps, ⟨fun vs H Q E ⟨ρ, s, ds, sr, p, g⟩ => g.elim, fun A outer s H args us vs Q E hr he hb hv ⟨ρ, st, ds, sr, p, g⟩ => g.elim⟩, h3⟩, h1.kp⟩
  | succ n ih =>
    refine ⟨fun f a ha => ?_, fun m e f a ha => by cases e; exact ih.1 f a ha⟩
    obtain ⟨x, qual, params, body, scope, fd, ps, N, F, h1, h2, h3, h4, h5, h6, h7⟩ := (hd f a ha).ex
    exact ⟨⟨fd, ps, fn_step lk ih h1 h2 h4 h5 h6 h7, h3⟩, h1.kp⟩
end all
end JM

set_option autoImplicit false
/-! J18: what the head tells; the law's end. -/
namespace JM
open PySem PySem.Spec PyProof.Rows L2

/-! ### the module's constants -/
mutual
def valB (K : PySem.W.Frag) : F → Value → Bool
  | .non, u => (match u with | .none => true | _ => false)
  | .bl b, u => (match u with | .bool c => b == c | _ => false)
  | .int i, u => (match u with | .int j _ => decide (i = j) | _ => false)
  | .str x, u => (match u with | .str y _ => decide (x = y) && decide (x.length ≤ sizeLine) && PyData.strOk x | _ => false)
  | .ktup l, u => (match u with
    | .ref a => (match K.lookup a with
      | some o => (match o.data with
        | .seq its _ => decide (o.cls = .type "tuple") && decide (its.size ≤ sizeLine) && valsB K l its.toList
        | _ => false)
      | none => false)
    | _ => false)
  | .tup _, _ => false
  | .lst _, _ => false
  | .scr _, _ => false
  | .dct _, _ => false
def valsB (K : PySem.W.Frag) : List F → List Value → Bool
  | [], us => (match us with | [] => true | _ :: _ => false)
  | x :: l, us => (match us with | u :: us => valB K x u && valsB K l us | [] => false)
end
mutual
theorem valB_ok {K : PySem.W.Frag} : ∀ {x : F} {u : Value}, valB K x u = true → ∃ v, RelV v u ∧ ∀ ρ H, VF K ρ H x v
  | .non, u, h => by
    unfold valB at h
    split at h
    · exact ⟨.non, rfl, fun _ _ => by simp only [VF]⟩
    · cases h
  | .bl b, u, h => by
    unfold valB at h
    split at h
    · exact ⟨.bl b, by rw [eq_of_beq h]; rfl, fun _ _ => by simp only [VF]⟩
    · cases h
  | .int i, u, h => by
    unfold valB at h
    split at h
    · rename_i j t
      exact ⟨.int i, ⟨t, by rw [of_decide_eq_true h]⟩, fun _ _ => by simp only [VF]⟩
    · cases h
  | .str x, u, h => by
    unfold valB at h
    split at h
    · rename_i y t
      simp only [Bool.and_eq_true, decide_eq_true_eq] at h
      obtain ⟨⟨rfl, h1⟩, h2⟩ := h
      exact ⟨.str x, ⟨t, rfl⟩, fun _ _ => by simp only [VF]; exact ⟨trivial, h1, h2⟩⟩
    · cases h
  | .ktup l, u, h => by
    unfold valB at h
    split at h
    · rename_i a
      split at h
      · rename_i o ho
        split at h
        · rename_i its n hd
          simp only [Bool.and_eq_true, decide_eq_true_eq] at h
          obtain ⟨⟨h1, h2⟩, h3⟩ := h
          obtain ⟨vs, r, p⟩ := valsB_ok h3
          refine ⟨.ref a, rfl, fun ρ H => VF.ktup_iff.mpr ⟨a, vs, rfl, ⟨o, its, n, ho, h1, hd, h2, r⟩, ?_, p ρ H⟩⟩
          rw [(p ρ H).length, r.length, Array.length_toList]
          exact h2
        · cases h
      · cases h
    · cases h
  | .tup _, u, h => by unfold valB at h; cases h
  | .lst _, u, h => by unfold valB at h; cases h
  | .scr _, u, h => by unfold valB at h; cases h
  | .dct _, u, h => by unfold valB at h; cases h
theorem valsB_ok {K : PySem.W.Frag} : ∀ {l : List F} {us : List Value}, valsB K l us = true → ∃ vs, Vals vs us ∧ ∀ ρ H, FL K ρ H l vs
  | [], us, h => by
    unfold valsB at h
    split at h
    · exact ⟨[], .nil, fun _ _ => .nil⟩
    · cases h
  | x :: l, us, h => by
    unfold valsB at h
    split at h
    · simp only [Bool.and_eq_true] at h
      obtain ⟨v, r, p⟩ := valB_ok h.1
      obtain ⟨vs, rs, ps⟩ := valsB_ok h.2
      exact ⟨v :: vs, .cons r rs, fun ρ H => .cons (p ρ H) (ps ρ H)⟩
    · cases h
end
def gvB (K : PySem.W.Frag) (q : Str × F) : Bool := match PySem.W.nsIn K mainGlobals q.1 with
  | some (some u) => valB K q.2 u
  | _ => false
/-! ### the hook -/
def obsJ (fa : List He.Fa) (fn : List He.DefD) (ex : PySem.W.Frag → Bool) (K : PySem.W.Frag) : He.AlD := ((He.obsD fa fn K).1 && ex K, (He.obsD fa fn K).2)
def SaysJ (fa : List He.Fa) (fn : List He.DefD) (ex : PySem.W.Frag → Bool) (K : PySem.W.Frag) : Prop := obsJ fa fn ex K = He.valD fn
def obsJG (n : Nat) (fa : List He.Fa) (fn : List He.DefD) (ex : PySem.W.Frag → Bool) (g : Addr → Option Obj) : He.AlD := obsJ fa fn ex (He.frG g (He.asD g n))
def hookJ (n : Nat) (fa : List He.Fa) (fn : List He.DefD) (ex : PySem.W.Frag → Bool) : PySem.W.Hook where
  α := He.AlD
  obs := fun s => obsJG n fa fn ex s.heap.get?
  val := fun _ => He.valD fn
  says := fun _ h => ∃ K : PySem.W.Frag, K.In h ∧ SaysJ fa fn ex K
  of := fun _ _ e => ⟨_, He.frG_in, e⟩
  keeps := fun _ _ _ ⟨K, hK, c⟩ k => ⟨K, PySem.W.Frag.In.keeps hK k, c⟩
theorem obsJG_eq {n : Nat} {fa : List He.Fa} {fn : List He.DefD} {ex : PySem.W.Frag → Bool} {g : Addr → Option Obj} {s : Shared} (h : ∀ a, g a = s.heap.get? a) : obsJG n fa fn ex g = (hookJ n fa fn ex).obs s := by
  have e : g = s.heap.get? := funext h
  rw [e] <;> rfl
section says
variable {fa : List He.Fa} {fn : List He.DefD} {ex : PySem.W.Frag → Bool} {K : PySem.W.Frag}
theorem SaysJ.d (c : SaysJ fa fn ex K) : He.SaysD fa fn K := by
  have c1 : ((He.obsD fa fn K).1 && ex K) = true := congrArg (fun z : He.AlD => z.1) c
  have c2 : (He.obsD fa fn K).2 = fn.map He.DefD.val := congrArg (fun z : He.AlD => z.2) c
  show He.obsD fa fn K = He.valD fn
  refine Prod.ext ?_ c2
  exact (He.ba c1).1
theorem SaysJ.exK (c : SaysJ fa fn ex K) : ex K = true := by
  have c1 : ((He.obsD fa fn K).1 && ex K) = true := congrArg (fun z : He.AlD => z.1) c
  exact (He.ba c1).2
theorem SaysJ.fact (c : SaysJ fa fn ex K) {f : He.Fa} (h : f ∈ fa) : f.ok K = true := by
  obtain ⟨i, hi⟩ := List.mem_iff_getElem?.mp h
  exact c.d.fact i hi
theorem SaysJ.def_ (c : SaysJ fa fn ex K) {d : He.DefD} (h : d ∈ fn) : ∃ fd, FunD K d.name d.qual d.params d.body d.scope (d.dvs K) (d.kws K) (He.fAd K d.at_) fd := by
  obtain ⟨i, hi⟩ := List.mem_iff_getElem?.mp h
  exact c.d.def_ i hi
end says
/-! ### the table's facts -/
def cnm (St : Stat) (c : Nat) : Str := match St.cls[c]? with | some d => d.name | none => Str.empty
def atK (St : Stat) : At → Str × Option Str
  | .glob x => (x, none)
  | .meth c m => (cnm St c, some m)
def fadOf (St : Stat) (K : PySem.W.Frag) (f : Nat) : Addr := match St.at_[f]? with | some a => He.fAd K (atK St a) | none => 0
def lkOf (St : Stat) (K : PySem.W.Frag) : Lk where
  K := K
  cad := fun c => He.ga K (cnm St c)
  cfs := fun c => match St.cls[c]? with | some d => d.fields | none => []
  xad := fun x => He.ga K (St.exs.getD x Str.empty)
def faAt (St : Stat) : At → He.Fa
  | .glob x => .glo x
  | .meth c m => .meth (cnm St c) m
def faCls (d : ClsS) : List He.Fa := [.glo d.name, .cls d.name, .mkr d.name] ++ d.fields.map fun f => .noat d.name f
def faExs (St : Stat) (sub : Nat → Nat → Bool) : List He.Fa := (St.exs.flatMap fun x => [.glo x, .exc x]) ++ St.exs.zipIdx.flatMap fun p => St.exs.zipIdx.map fun q => .exm p.1 q.1 (sub p.2 q.2)
def faOf (St : Stat) (T : Tb) : List He.Fa := St.free.map .free ++ St.at_.map (faAt St) ++ St.cls.flatMap faCls ++ faExs St T.sub
/-- a class of errors, as isinstance asks its instances -/
def excCB (K : PySem.W.Frag) (D : Addr) : Bool :=
  He.eqO (PySem.W.findIn K (.ref D) "__getattribute__") (some (some (.builtin "BaseException.__getattribute__"))) && (He.eqO (PySem.W.findIn K (.ref D) "__getattr__") (some none) && (decide (PySem.W.subIn K (.ref D) (.type "BaseException") = some true) && (PySem.W.hasDictIn K D &&
    (He.eqO (PySem.W.findIn K (.ref D) "__class__") (some (some (.builtin "object.__class__"))) && (He.eqO (PySem.W.specialIn K (.builtin "object.__class__") "__get__") (some (some (.builtin "getset_descriptor.__get__"))) &&
      (decide (PySem.W.takesIn K (.builtin "object.__class__") = some true) && decide (PySem.W.mroIn K D (.type "object") = some true)))))))
theorem excCB_ok {K : PySem.W.Frag} {D : Addr} (h : excCB K D = true) : ExcC K D := by
  unfold excCB at h
  simp only [Bool.and_eq_true] at h
  obtain ⟨h1, h2, h3, h4, h5, h6, h7, h8⟩ := h
  exact ⟨He.eqO_ok h1, He.eqO_ok h2, of_decide_eq_true h3, h4, He.eqO_ok h5, He.eqO_ok h6, of_decide_eq_true h7, of_decide_eq_true h8⟩
def isxB (St : Stat) (T : Tb) (K : PySem.W.Frag) : Bool := (List.range St.exs.length).all fun x => excCB K (He.ga K (St.exs.getD x Str.empty)) && (decide (PySem.W.kitOne K (.ref (He.ga K (St.exs.getD x Str.empty))) (.type "ValueError") = some true) &&
  (List.range St.exs.length).all fun y => decide (PySem.W.kitOne K (.ref (He.ga K (St.exs.getD x Str.empty))) (.ref (He.ga K (St.exs.getD y Str.empty))) = some (T.sub x y)))
def exOf (St : Stat) (T : Tb) (K : PySem.W.Frag) : Bool := St.gls.all (gvB K) && isxB St T K
/-- which class of errors stands below which -/
def subR (rows : List (List Nat)) (a b : Nat) : Bool := (rows.getD a []).contains b
theorem subR_rng {rows : List (List Nat)} {exs : List Str} (h : rows.length = exs.length) (z : Nat) (k : subR rows z z = true) : ∃ a, exs[z]? = some a := by
  by_cases hz : z < rows.length
  · exact ⟨exs[z]'(by omega), List.getElem?_eq_getElem (by omega)⟩
  · unfold subR at k
    rw [List.getD_eq_getElem?_getD, List.getElem?_eq_none (by omega)] at k
    cases k
def statB (St : Stat) : Bool := St.cls.all fun d => decide d.fields.Nodup && decide (d.fields.length ≤ 100)
theorem links_of {P : Program} {w : World} {mg : Str → Option Value} {base : Heap} {St : Stat} {T : Tb} {fn : List He.DefD} {K : PySem.W.Frag} (hK : K.In base) (G : base.Ns mainGlobals mg) (c : SaysJ (faOf St T) fn (exOf St T) K) (hs : statB St = true) (hr : ∀ z, T.sub z z = true → ∃ a, St.exs[z]? = some a) : Links P w mg base St T (lkOf St K) (fadOf St K) where
  glob := fun f x h => by
    have m : He.Fa.glo x ∈ faOf St T := by
      unfold faOf
      exact List.mem_append_left _ (List.mem_append_left _ (List.mem_append_right _ (List.mem_map.mpr ⟨_, List.mem_of_getElem? h, rfl⟩)))
    have := He.glo_ok hK G (c.fact m)
    unfold fadOf
    rw [h]
    exact this
  meth := fun f cc m h => by
    have mm : He.Fa.meth (cnm St cc) m ∈ faOf St T := by
      unfold faOf
      exact List.mem_append_left _ (List.mem_append_left _ (List.mem_append_right _ (List.mem_map.mpr ⟨_, List.mem_of_getElem? h, rfl⟩)))
    have := He.meth_ok (c.fact mm)
    unfold fadOf
    rw [h]
    exact this
  cls := fun cc d h => by
    have en : cnm St cc = d.name := by unfold cnm; rw [h]
    have k : ∀ f ∈ faCls d, f.ok K = true := fun f hf => c.fact (by
      unfold faOf
      exact List.mem_append_left _ (List.mem_append_right _ (List.mem_flatMap.mpr ⟨d, List.mem_of_getElem? h, hf⟩)))
    have k1 := He.glo_ok hK G (k (.glo d.name) (by simp [faCls]))
    have k2 := He.cls_ok (k (.cls d.name) (by simp [faCls]))
    have k3 := He.mkr_ok (k (.mkr d.name) (by simp [faCls]))
    have hb := List.all_eq_true.mp hs d (List.mem_of_getElem? h)
    simp only [Bool.and_eq_true, decide_eq_true_eq] at hb
    have ca : (lkOf St K).cad cc = He.ga K d.name := by show He.ga K (cnm St cc) = _; rw [en]
    rw [ca]
    refine ⟨k1, k2, fun y hy => He.noat_ok (k (.noat d.name y) ?_), ?_, hb.1, hb.2, k3.makes, k3.kp⟩
    · unfold faCls
      exact List.mem_append_right _ (List.mem_map.mpr ⟨y, hy, rfl⟩)
    · show (match St.cls[cc]? with | some d => d.fields | none => []) = _
      rw [h]
  gls := fun x d h => by
    have := List.all_eq_true.mp (show St.gls.all (gvB K) = true from (Bool.and_eq_true_iff.mp c.exK).1) (x, d) h
    unfold gvB at this
    split at this
    · rename_i u hu
      obtain ⟨v, r, p⟩ := valB_ok this
      exact ⟨u, v, PySem.W.mg_of hK G hu, r, p⟩
    · cases this
  free := fun x h => by
    have m : He.Fa.free x ∈ faOf St T := by
      unfold faOf
      exact List.mem_append_left _ (List.mem_append_left _ (List.mem_append_left _ (List.mem_map.mpr ⟨x, List.contains_iff_mem.mp h, rfl⟩)))
    exact He.free_ok hK G (c.fact m)
  exc := fun x y h => by
    have k : ∀ f ∈ faExs St T.sub, f.ok K = true := fun f hf => c.fact (by
      unfold faOf
      exact List.mem_append_right _ hf)
    have ey : St.exs.getD x Str.empty = y := by rw [List.getD_eq_getElem?_getD, h]; rfl
    have k1 := He.glo_ok hK G (k (.glo y) (by
      unfold faExs
      exact List.mem_append_left _ (List.mem_flatMap.mpr ⟨y, List.mem_of_getElem? h, by simp⟩)))
    have k2 := He.exc_ok (k (.exc y) (by
      unfold faExs
      exact List.mem_append_left _ (List.mem_flatMap.mpr ⟨y, List.mem_of_getElem? h, by simp⟩)))
    have xa : (lkOf St K).xad x = He.ga K y := by show He.ga K (St.exs.getD x Str.empty) = _; rw [ey]
    rw [xa]
    exact ⟨k1, k2.1, k2.2.1, k2.2.2.1, k2.2.2.2⟩
  sub := fun x y a b ha hb => by
    have k : ∀ f ∈ faExs St T.sub, f.ok K = true := fun f hf => c.fact (by
      unfold faOf
      exact List.mem_append_right _ hf)
    have xa : (lkOf St K).xad x = He.ga K a := by show He.ga K (St.exs.getD x Str.empty) = _; rw [List.getD_eq_getElem?_getD, ha]; rfl
    have xb : (lkOf St K).xad y = He.ga K b := by show He.ga K (St.exs.getD y Str.empty) = _; rw [List.getD_eq_getElem?_getD, hb]; rfl
    rw [xa, xb]
    have z : ∀ {i : Nat} {z : Str}, St.exs[i]? = some z → (z, i) ∈ St.exs.zipIdx := fun {i z} h => List.mem_of_getElem? (i := i) (by rw [List.getElem?_zipIdx, h]; simp)
    exact He.exm_ok (k (.exm a b (T.sub x y)) (by
      unfold faExs
      exact List.mem_append_right _ (List.mem_flatMap.mpr ⟨(a, x), z ha, List.mem_map.mpr ⟨(b, y), z hb, rfl⟩⟩)))
  rng := hr
  isx := fun x a ha => by
    have h := List.all_eq_true.mp (show isxB St T K = true from (Bool.and_eq_true_iff.mp c.exK).2) x (List.mem_range.mpr (List.getElem?_eq_some_iff.mp ha).1)
    simp only [Bool.and_eq_true, decide_eq_true_eq] at h
    obtain ⟨h1, h2, h3⟩ := h
    refine ⟨excCB_ok h1, h2, fun y b hb => ?_⟩
    have := List.all_eq_true.mp h3 y (List.mem_range.mpr (List.getElem?_eq_some_iff.mp hb).1)
    exact of_decide_eq_true this
/-- a def of the table -/
structure Ent (St : Stat) (T : Tb) (fn : List He.DefD) (f : Nat) : Prop where
  ex : ∃ (d : He.DefD) (ps N : List Str) (F : Fn) (a : At), d ∈ fn ∧ d.dfl = [] ∧ d.kwd = [] ∧ St.at_[f]? = some a ∧ atK St a = d.at_ ∧ FnScope N ps d.scope ∧
    (∀ (kV doc pm : Value) (an : Option Addr) (cdv ct : Value) (us : List Value), us.length = ps.length → bindArgs (PySem.W.fnOf d.name d.qual d.params d.body d.scope .none kV doc pm an cdv ct) ⟨us, []⟩ = pure (ps.zip us)) ∧
    T.fns[f]? = some F ∧ F.nps = ps.length ∧ F.nsl = N.length ∧ mSs St N F.body d.scope (fun _ => true) d.body = true
theorem fnDef_of {St : Stat} {T : Tb} {fn : List He.DefD} {fa : List He.Fa} {ex : PySem.W.Frag → Bool} {K : PySem.W.Frag} {f : Nat} (c : SaysJ fa fn ex K) (e : Ent St T fn f) : FnDef St T (lkOf St K) (fadOf St K) f := by
  obtain ⟨d, ps, N, F, a, h1, h2, h3, h4, h5, h6, h7, h8, h9, h10, h11⟩ := e.ex
  obtain ⟨fd, fu⟩ := c.def_ h1
  have e1 : d.dvs K = [] := by unfold He.DefD.dvs; rw [h2]; rfl
  have e2 : d.kws K = [] := by unfold He.DefD.kws; rw [h3]; rfl
  rw [e1, e2] at fu
  have e3 : fadOf St K f = He.fAd K d.at_ := by unfold fadOf; rw [h4]; show He.fAd K (atK St a) = _; rw [h5]
  rw [← e3] at fu
  exact ⟨d.name, d.qual, d.params, d.body, d.scope, fd, ps, N, F, fu, h6, fu.bindsN h7, h8, h9, h10, h11⟩
/-! ### the law's end -/
theorem walk_ofW {l : PySem.W.OpenLaw} {n k : Nat} {q : Program} {loose : List Str} {XP : (Str → Option Value) → Heap → Prop} {YP : World → Heap → Prop} {d : DefRec} {CX : World → CXT} {x : Str}
    (hn : l.most = some n) (hn2 : n ≤ sizeLine) (hdf : d.params.defaults = []) (hr : Room k callerA)
    (F : ∀ (w : World) (mg : Str → Option Value) (fa : Addr) (h : Heap), YP w h → h.Ns mainGlobals mg → mg d.name = some (.ref fa) →
      ∃ (K : PySem.W.Frag) (fd : FuncData) (sp : Sp), K.In h ∧ (∀ (s : Shared) (u : Value), BindsTo s fd ⟨[u], []⟩ [(x, u)]) ∧
        (∀ (H : Hp) (a : Addr) (ns : List Int), ns.length ≤ n → Only H → SqL K H a (ns.map V.int) → sp [.ref a] H (fun v _ => v = .bl true) fun _ _ _ => False) ∧
        ∀ base : Heap, K.In base → base.Ns mainGlobals mg → FnOk l.prog w K mg base (CX w) k fa fd [x] sp)
    (hCX : ∀ (w : World) (H : Hp) (s : Shared) (e : Value) (s' : Shared), CX w [] H s (fun _ _ _ => False) e s' → False) :
    PySem.W.WalkO q loose XP YP l.row.toRowW d [] (fun f vs => PySem.call f vs) := by
  refine Att.attach_call hn hdf fun w s₀ s₁ mg mb fa o pm cd doc a vs ns G Y ho hd hcd hmg hobj hints hlen hg => ?_
  obtain ⟨K, fd, sp, KX, hb, hsp, hF⟩ := F w mg fa _ Y G.T.g hmg
  exact law_call KX G.T.g G.T.b G.T.builtins G.T.nolimit hg hobj hints (Nat.le_trans hlen hn2) hr hF hb (fun H hO hS => hsp H a ns hlen hO hS) fun H e s' => hCX w H s₁ e s'
theorem cx_none (P : Program) (w : World) (H : Hp) (s : Shared) (e : Value) (s' : Shared) (h : L2.CX P w [] H s (fun _ _ _ => False) e s') : False := by
  obtain ⟨a, B, H', cls, d, _, _, _, _, _, _, _, z⟩ := h
  exact z
/-- the law: its def's outcome at every script is True -/
theorem law_facts {P : Program} {w : World} {K : PySem.W.Frag} {h : Heap} {mg : Str → Option Value} {fa : Addr} {St : Stat} {T : Tb} {fn : List He.DefD} {lw n : Nat} {x y : Str} (X : K.In h) (G : h.Ns mainGlobals mg) (hfa : mg y = some (.ref fa)) (c : SaysJ (faOf St T) fn (exOf St T) K)
    (hs : statB St = true) (hr : ∀ z, T.sub z z = true → ∃ a, St.exs[z]? = some a) (hy : St.at_[lw]? = some (.glob y)) (he : ∀ f a, St.at_[f]? = some a → Ent St T fn f)
    (hx : ∃ (d : He.DefD) (N : List Str) (F : Fn), d ∈ fn ∧ d.dfl = [] ∧ d.kwd = [] ∧ d.at_ = (y, none) ∧ FnScope N [x] d.scope ∧
      (∀ (kV doc pm : Value) (an : Option Addr) (cdv ct : Value) (us : List Value), us.length = [x].length → bindArgs (PySem.W.fnOf d.name d.qual d.params d.body d.scope .none kV doc pm an cdv ct) ⟨us, []⟩ = pure ([x].zip us)) ∧
      T.fns[lw]? = some F ∧ F.nps = 1 ∧ F.nsl = N.length ∧ mSs St N F.body d.scope (fun _ => true) d.body = true)
    (law : ∀ ns : List Int, ns.length ≤ 63 → ∃ s, callF T (n + 1) lw [.f (.scr ns)] [] = .ok (.f (.bl true)) s) :
    ∃ (fd : FuncData) (sp : Sp), (∀ (s : Shared) (v : Value), BindsTo s fd ⟨[v], []⟩ [(x, v)]) ∧
      (∀ (H : Hp) (a : Addr) (ns : List Int), ns.length ≤ 63 → Only H → SqL K H a (ns.map V.int) → sp [.ref a] H (fun v _ => v = .bl true) fun _ _ _ => False) ∧
      ∀ base : Heap, K.In base → base.Ns mainGlobals mg → FnOk P w K mg base (L2.CX P w) (n + 1) fa fd [x] sp := by
  obtain ⟨d, N, F, hd, h2, h3, h4, h6, h7, h8, h9, h10, h11⟩ := hx
  obtain ⟨fd, fu⟩ := c.def_ hd
  have e1 : d.dvs K = [] := by unfold He.DefD.dvs; rw [h2]; rfl
  have e2 : d.kws K = [] := by unfold He.DefD.kws; rw [h3]; rfl
  rw [e1, e2] at fu
  have efa : fa = fadOf St K lw := by
    have l0 := (links_of (P := P) (w := w) X G c hs hr).glob lw y hy
    rw [l0] at hfa
    cases hfa
    rfl
  have efd : He.fAd K d.at_ = fadOf St K lw := by
    unfold fadOf
    rw [hy, h4]
    rfl
  refine ⟨fd, spF T (lkOf St K) (n + 1) lw, fun s v => FunD.bindsA (ps := [x]) fu h7 s [v] rfl, fun H a ns hl hO hS => ?_, fun base hB hG => ?_⟩
  · obtain ⟨s, e⟩ := law ns hl
    have hz : ns.length ≤ sizeLine := Nat.le_trans hl (by rw [sizeLine_eq]; decide)
    refine ⟨{}, [], [.f (.scr ns)], SR.nil, .cons (VR.f_iff.mpr ?_) .nil, ?_⟩
    · simp only [VF]
      refine ⟨a, rfl, ?_, hz⟩
      rcases hS with hS | hS
      · exact .inl ⟨hS, by simp [Ro.no]⟩
      · exact .inr hS
    · rw [e]
      exact fun ρ' H' v ex sr hv => hv.bl
  · have lk := links_of (P := P) (w := w) hB hG c hs hr
    rw [efd] at fu
    rw [efa]
    exact fn_step lk (fn_levels lk (fun f a ha => fnDef_of c (he f a ha)) n) fu h6 h8 h9 h10 h11
end JM

set_option autoImplicit false
/-! J19: how the small language runs: steps for the laws' proofs. -/
namespace JM
open PySem L2
theorem call_eq {T : Tb} {n f : Nat} {F : Fn} {ds : List D} {s : Sto} (h : T.fns[f]? = some F) (hl : ds.length = F.nps) : callF T (n + 1) f ds s = (exSs (callF T n) (callM T n) T.sub F.body (startE F.nsl ds) s).res := by
  show (match T.fns[f]? with | some F => if ds.length = F.nps then (exSs (callF T n) (callM T n) T.sub F.body (startE F.nsl ds) s).res else .fail | none => .fail) = _
  rw [h]
  simp only [hl, if_true]
section ops
variable {m : Bool} {s : Sto}
theorem e_add (a b : Int) : bAdd m (.f (.int a)) (.f (.int b)) s = .ok (.f (.int (a + b))) s := rfl
theorem e_addS (a b : Str) : bAdd m (.f (.str a)) (.f (.str b)) s = if a.length + b.length ≤ sizeLine then .ok (.f (.str (a ++ b))) s else .fail := rfl
theorem e_addT (a b : List F) : bAdd m (.f (.tup a)) (.f (.tup b)) s = if a.length + b.length ≤ sizeLine then .ok (.f (.tup (a ++ b))) s else .fail := rfl
theorem e_addL (a b : List F) : bAdd m (.f (.lst a)) (.f (.lst b)) s = newL m (a.map .f ++ b.map .f) s := rfl
theorem e_sub (a b : Int) : bSub (.f (.int a)) (.f (.int b)) s = .ok (.f (.int (a - b))) s := rfl
theorem e_mul (a b : Int) : bMul m (.f (.int a)) (.f (.int b)) s = if (-(2 ^ 64) < a ∧ a < 2 ^ 64) ∨ (-(2 ^ 64) < b ∧ b < 2 ^ 64) then .ok (.f (.int (a * b))) s else .fail := rfl
theorem e_mulS (a : Str) (b : Int) : bMul m (.f (.str a)) (.f (.int b)) s = if 0 ≤ b ∧ b ≤ 10000 ∧ a.length ≤ 1000 then .ok (.f (.str (repS a b))) s else .fail := rfl
theorem e_mulT (l : List F) (j : Int) : bMul m (.f (.tup l)) (.f (.int j)) s = if l ≠ [] ∧ 2 ≤ j ∧ j ≤ 1000 ∧ l.length ≤ 1000 then .ok (.f (.tup (List.replicate j.toNat l).flatten)) s else .fail := rfl
theorem e_fdiv (a b : Int) : bFdiv (.f (.int a)) (.f (.int b)) s = if b ≠ 0 ∧ b.natAbs < 1073741824 then .ok (.f (.int (a.fdiv b))) s else .fail := rfl
theorem e_mod (a b : Int) : bMod (.f (.int a)) (.f (.int b)) s = if b ≠ 0 then .ok (.f (.int (a.fmod b))) s else .fail := rfl
theorem e_pow (a b : Int) : bPow (.f (.int a)) (.f (.int b)) s = if 0 ≤ b ∧ b ≤ 1000000 ∧ a.natAbs < 2 ^ 64 then .ok (.f (.int (a ^ b.toNat))) s else .fail := rfl
theorem e_lt (a b : Int) : cLt (.f (.int a)) (.f (.int b)) s = .ok (.f (.bl (decide (a < b)))) s := rfl
theorem e_le (a b : Int) : cLe (.f (.int a)) (.f (.int b)) s = .ok (.f (.bl (decide (a ≤ b)))) s := rfl
theorem e_gt (a b : Int) : cGt (.f (.int a)) (.f (.int b)) s = .ok (.f (.bl (decide (b < a)))) s := rfl
theorem e_ge (a b : Int) : cGe (.f (.int a)) (.f (.int b)) s = .ok (.f (.bl (decide (b ≤ a)))) s := rfl
theorem eqF_int (a b : Int) : eqF (.int a) (.int b) = decide (a = b) := by
  show (a == b) = _
  rw [Bool.eq_iff_iff]; simp
theorem eqF_str (a b : Str) : eqF (.str a) (.str b) = decide (a = b) := by
  show (a == b) = _
  rw [Bool.eq_iff_iff]; simp
theorem eqF_bl (a b : Bool) : eqF (.bl a) (.bl b) = (a == b) := rfl
theorem cEq_of {x y : F} (h : cmpable x y = true) : cEq (.f x) (.f y) s = .ok (.f (.bl (eqF x y))) s := by
  unfold cEq
  simp only [h, if_true]
theorem cNe_of {x y : F} (h : cmpable x y = true) : cNe (.f x) (.f y) s = .ok (.f (.bl (!eqF x y))) s := by
  unfold cNe
  simp only [h, if_true]
theorem e_eq (a b : Int) : cEq (.f (.int a)) (.f (.int b)) s = .ok (.f (.bl (decide (a = b)))) s := by
  rw [cEq_of (by rfl), eqF_int]
theorem e_eqS (a b : Str) : cEq (.f (.str a)) (.f (.str b)) s = .ok (.f (.bl (decide (a = b)))) s := by
  rw [cEq_of (by rfl), eqF_str]
theorem e_eqB (a b : Bool) : cEq (.f (.bl a)) (.f (.bl b)) s = .ok (.f (.bl (a == b))) s := by
  rw [cEq_of (by rfl), eqF_bl]
theorem e_ne (a b : Int) : cNe (.f (.int a)) (.f (.int b)) s = .ok (.f (.bl (!decide (a = b)))) s := by
  rw [cNe_of (by rfl), eqF_int]
theorem e_neS (a b : Str) : cNe (.f (.str a)) (.f (.str b)) s = .ok (.f (.bl (!decide (a = b)))) s := by
  rw [cNe_of (by rfl), eqF_str]
/-- against the empty list -/
theorem e_eqNil (l : List F) (h : F.dats l = true) : cEq (.f (.lst l)) (.f (.lst [])) s = .ok (.f (.bl l.isEmpty)) s := by
  have h1 : cmpable (.lst l) (.lst []) = true := by
    unfold cmpable
    simp only [F.dat, F.dats, h, Bool.true_and, Bool.and_true, decide_eq_true_eq]
    exact Nat.le_trans (Nat.min_le_right _ _) (by decide)
  rw [cEq_of h1]
  congr 2
  cases l with
  | nil => rfl
  | cons x l => rfl
theorem e_neg (i : Int) : negD (.f (.int i)) s = .ok (.f (.int (-i))) s := rfl
theorem e_ixL (l : List F) (k : Int) : cIdx (.f (.lst l)) (.f (.int k)) s = match atI l k with | some v => .ok (.f v) s | none => .fail := by
  unfold cIdx
  simp only [dGet, seqL]
  show (match atI (l.map D.f) k with | some v => R.ok v s | none => .fail) = _
  unfold atI
  rw [List.length_map]
  cases ixN l.length k with
  | none => rfl
  | some j =>
    simp only [Option.bind_some, List.getElem?_map]
    cases l[j]? <;> rfl
theorem e_ixT (l : List F) (k : Int) : cIdx (.f (.tup l)) (.f (.int k)) s = match atI l k with | some v => .ok (.f v) s | none => .fail := by
  unfold cIdx
  simp only [dGet, seqL, seqT]
  show (match atI (l.map D.f) k with | some v => R.ok v s | none => .fail) = _
  unfold atI
  rw [List.length_map]
  cases ixN l.length k with
  | none => rfl
  | some j =>
    simp only [Option.bind_some, List.getElem?_map]
    cases l[j]? <;> rfl
theorem e_ixS (z : Str) (k : Int) : cIdx (.f (.str z)) (.f (.int k)) s = match atI z.cps.toList k with | some c => .ok (.f (.str (one c))) s | none => .fail := rfl
theorem e_ixR (l : List Int) (k : Int) : cIdx (.f (.scr l)) (.f (.int k)) s = match atI l k with | some v => .ok (.f (.int v)) s | none => .fail := by
  unfold cIdx
  simp only [dGet, seqL]
  show (match atI (l.map fun i => D.f (F.int i)) k with | some v => R.ok v s | none => .fail) = _
  unfold atI
  rw [List.length_map]
  cases ixN l.length k with
  | none => rfl
  | some j =>
    simp only [Option.bind_some, List.getElem?_map]
    cases l[j]? <;> rfl
theorem atI_mod {α : Type} (l : List α) (k : Int) (h : 0 ≤ k) (h2 : k < l.length) : ∃ v, atI l k = some v ∧ l[k.toNat]? = some v := by
  have hj : ixN l.length k = some k.toNat := by
    unfold ixN
    rw [if_pos h, if_pos h2]
  have hk : k.toNat < l.length := by omega
  refine ⟨l[k.toNat], ?_, by simp [hk]⟩
  unfold atI
  rw [hj]
  simp [hk]
theorem atI_get {α : Type} (l : List α) (k : Int) (h : 0 ≤ k) (h2 : k < l.length) : atI l k = l[k.toNat]? := by
  obtain ⟨v, a, b⟩ := atI_mod l k h h2
  rw [a, b]
theorem e_lenS (z : Str) : bi .len [.f (.str z)] s = .ok (.f (.int (z.length : Nat))) s := rfl
theorem e_lenT (l : List F) : bi .len [.f (.tup l)] s = .ok (.f (.int (l.length : Nat))) s := by
  show (match (some (l.map D.f)).map (·.length) with | some n => R.ok (D.f (.int (n : Nat))) s | none => .fail) = _
  simp
theorem e_lenL (l : List F) : bi .len [.f (.lst l)] s = .ok (.f (.int (l.length : Nat))) s := by
  show (match (some (l.map D.f)).map (·.length) with | some n => R.ok (D.f (.int (n : Nat))) s | none => .fail) = _
  simp
theorem e_lenR (l : List Int) : bi .len [.f (.scr l)] s = .ok (.f (.int (l.length : Nat))) s := by
  show (match (some (l.map fun i => D.f (F.int i))).map (·.length) with | some n => R.ok (D.f (.int (n : Nat))) s | none => .fail) = _
  simp
theorem e_intB (b : Bool) : bi .int [.f (.bl b)] s = .ok (.f (.int (if b then 1 else 0))) s := rfl
theorem e_intI (b : Int) : bi .int [.f (.int b)] s = .ok (.f (.int b)) s := rfl
theorem e_abs (i : Int) : bi .abs [.f (.int i)] s = .ok (.f (.int (if i < 0 then -i else i))) s := rfl
theorem e_strI (i : Int) : bi .str [.f (.int i)] s = if i.natAbs.log2 < 1920 ∧ (strI i).length ≤ sizeLine then .ok (.f (.str (strI i))) s else .fail := rfl
theorem allF_f : ∀ l : List F, allF (l.map D.f) = some l
  | [] => rfl
  | x :: l => by
    show (allF (l.map D.f)).map (x :: ·) = _
    rw [allF_f l]; rfl
theorem newL_f (l : List F) : newL false (l.map D.f) s = if l.length ≤ sizeLine then .ok (.f (.lst l)) s else .fail := by
  unfold newL
  rw [List.length_map, allF_f]
  simp
theorem newT_f (l : List F) : newT (l.map D.f) s = if l.length ≤ sizeLine then .ok (.f (.tup l)) s else .fail := by
  unfold newT
  rw [List.length_map, allF_f]
theorem listT (l : List F) : bi (.list false) [.f (.tup l)] s = if l.length ≤ sizeLine then .ok (.f (.lst l)) s else .fail := by
  show newL false (l.map D.f) s = _
  rw [newL_f]
theorem listL (l : List F) : bi (.list false) [.f (.lst l)] s = if l.length ≤ sizeLine then .ok (.f (.lst l)) s else .fail := by
  show newL false (l.map D.f) s = _
  rw [newL_f]
theorem tupL (l : List F) : bi .tuple [.f (.lst l)] s = if l.length ≤ sizeLine then .ok (.f (.tup l)) s else .fail := by
  show newT (l.map D.f) s = _
  rw [newT_f]
theorem tupT (l : List F) : bi .tuple [.f (.tup l)] s = .ok (.f (.tup l)) s := rfl
theorem addLL (a b : List F) : bAdd false (.f (.lst a)) (.f (.lst b)) s = if a.length + b.length ≤ sizeLine then .ok (.f (.lst (a ++ b))) s else .fail := by
  rw [e_addL, ← List.map_append, newL_f, List.length_append]
theorem e_slS (z : Str) (lo hi : Option Int) : cSl m (.f (.str z)) lo hi s = .ok (.f (.str (cutS z lo hi))) s := rfl
theorem e_slT (l : List F) (lo hi : Option Int) : cSl m (.f (.tup l)) lo hi s = .ok (.f (.tup (cutL l lo hi))) s := rfl
theorem e_slL (l : List F) (lo hi : Option Int) : cSl false (.f (.lst l)) lo hi s = if (cutL l lo hi).length ≤ sizeLine then .ok (.f (.lst (cutL l lo hi))) s else .fail := by
  show newL false (cutL (l.map D.f) lo hi) s = _
  have : cutL (l.map D.f) lo hi = (cutL l lo hi).map D.f := by
    unfold cutL
    rw [List.length_map, ← List.map_drop, ← List.map_take]
  rw [this, newL_f]
theorem e_rvS (z : Str) : cRev m (.f (.str z)) s = .ok (.f (.str ⟨z.cps.toList.reverse.toArray⟩)) s := rfl
theorem e_rvT (l : List F) : cRev m (.f (.tup l)) s = .ok (.f (.tup l.reverse)) s := rfl
theorem e_isi (x : F) (t : Ty) (h : plainF x = true) : isiD (.f x) [t] s = .ok (.f (.bl (tyIs t x))) s := by
  cases x <;> first | (cases h; done) | (simp [isiD])
end ops
/-! ### the same under conditions -/
section cnd
variable {m : Bool} {s : Sto}
theorem c_mulL (a b : Int) (h : -18446744073709551616 < a ∧ a < 18446744073709551616) : bMul m (.f (.int a)) (.f (.int b)) s = .ok (.f (.int (a * b))) s := by
  rw [e_mul, if_pos (.inl (by omega))]
theorem c_mulR (a b : Int) (h : -18446744073709551616 < b ∧ b < 18446744073709551616) : bMul m (.f (.int a)) (.f (.int b)) s = .ok (.f (.int (a * b))) s := by
  rw [e_mul, if_pos (.inr (by omega))]
theorem c_fdiv (a b : Int) (h : 0 < b ∧ b < 1073741824) : bFdiv (.f (.int a)) (.f (.int b)) s = .ok (.f (.int (a.fdiv b))) s := by
  rw [e_fdiv, if_pos ⟨by omega, by omega⟩]
theorem c_mod (a b : Int) (h : 0 < b) : bMod (.f (.int a)) (.f (.int b)) s = .ok (.f (.int (a.fmod b))) s := by
  rw [e_mod, if_pos (by omega)]
theorem c_pow (a b : Int) (h : 0 ≤ b ∧ b ≤ 1000) (k : -1000000 < a ∧ a < 1000000) : bPow (.f (.int a)) (.f (.int b)) s = .ok (.f (.int (a ^ b.toNat))) s := by
  rw [e_pow, if_pos ⟨h.1, by omega, by omega⟩]
theorem c_addS (a b : Str) (h : a.length + b.length ≤ 16777216) : bAdd m (.f (.str a)) (.f (.str b)) s = .ok (.f (.str (a ++ b))) s := by
  rw [e_addS, if_pos (by rw [sizeLine_eq]; omega)]
theorem c_addT (a b : List F) (h : a.length + b.length ≤ 16777216) : bAdd m (.f (.tup a)) (.f (.tup b)) s = .ok (.f (.tup (a ++ b))) s := by
  rw [e_addT, if_pos (by rw [sizeLine_eq]; omega)]
theorem c_addL (a b : List F) (h : a.length + b.length ≤ 16777216) : bAdd false (.f (.lst a)) (.f (.lst b)) s = .ok (.f (.lst (a ++ b))) s := by
  rw [addLL, if_pos (by rw [sizeLine_eq]; omega)]
theorem c_mulS (a : Str) (b : Int) (h : 0 ≤ b ∧ b ≤ 10000) (k : a.length ≤ 1000) : bMul m (.f (.str a)) (.f (.int b)) s = .ok (.f (.str (repS a b))) s := by
  rw [e_mulS, if_pos ⟨h.1, h.2, k⟩]
theorem c_newL (l : List F) (h : l.length ≤ 16777216) : newL false (l.map D.f) s = .ok (.f (.lst l)) s := by
  rw [newL_f, if_pos (by rw [sizeLine_eq]; omega)]
theorem c_newT (l : List F) (h : l.length ≤ 16777216) : newT (l.map D.f) s = .ok (.f (.tup l)) s := by
  rw [newT_f, if_pos (by rw [sizeLine_eq]; omega)]
theorem c_new (l : List D) (h : l.length ≤ 16777216) : newL false l s = (match allF l with | some fs => .ok (.f (.lst fs)) s | none => .fail) := by
  unfold newL
  rw [if_pos (by rw [sizeLine_eq]; omega)]
  all_goals (cases allF l <;> rfl)
theorem c_tup (l : List D) (h : l.length ≤ 16777216) : newT l s = (match allF l with | some fs => .ok (.f (.tup fs)) s | none => .ok (.tup l) s) := by
  unfold newT
  rw [if_pos (by rw [sizeLine_eq]; omega)]
  all_goals (cases allF l <;> rfl)
theorem c_listT (l : List F) (h : l.length ≤ 16777216) : bi (.list false) [.f (.tup l)] s = .ok (.f (.lst l)) s := by
  rw [listT, if_pos (by rw [sizeLine_eq]; omega)]
theorem c_listL (l : List F) (h : l.length ≤ 16777216) : bi (.list false) [.f (.lst l)] s = .ok (.f (.lst l)) s := by
  rw [listL, if_pos (by rw [sizeLine_eq]; omega)]
theorem c_tupL (l : List F) (h : l.length ≤ 16777216) : bi .tuple [.f (.lst l)] s = .ok (.f (.tup l)) s := by
  rw [tupL, if_pos (by rw [sizeLine_eq]; omega)]
theorem c_slL (l : List F) (lo hi : Option Int) (h : l.length ≤ 16777216) : cSl false (.f (.lst l)) lo hi s = .ok (.f (.lst (cutL l lo hi))) s := by
  rw [e_slL, if_pos (by rw [sizeLine_eq]; exact Nat.le_trans (cutL_le _ _ _) (by omega))]
end cnd
/-! ### lists of things -/
theorem mapR_ok {f : D → Sto → R (Option D)} {g : D → Option D} {s : Sto} : ∀ {l : List D}, (∀ x ∈ l, f x s = .ok (g x) s) → mapR f l s = .ok (l.filterMap g) s
  | [], _ => rfl
  | x :: l, h => by
    unfold mapR
    rw [h x (by simp), R.bind_ok, mapR_ok (l := l) fun y hy => h y (by simp [hy]), R.bind_ok]
    rw [List.filterMap_cons]
    cases g x <;> rfl
theorem forR_inv {f : D → Env' → Sto → O} {P : Nat → Env' → Sto → Prop} : ∀ {l : List D} {i : Nat} {env : Env'} {s : Sto}, P i env s →
    (∀ (j : Nat) x env s, l[j]? = some x → P (i + j) env s → ∃ env' s', (f x env s = .nx env' s' ∨ f x env s = .ct env' s') ∧ P (i + j + 1) env' s') → ∃ env' s', forR f l env s = .nx env' s' ∧ P (i + l.length) env' s'
  | [], i, env, s, h, _ => ⟨env, s, rfl, h⟩
  | x :: l, i, env, s, h, st => by
    obtain ⟨e1, s1, h1, h2⟩ := st 0 x env s rfl h
    have go := forR_inv (l := l) (i := i + 1) h2 fun j y e2 s2 hy hp => by
      have := st (j + 1) y e2 s2 hy (by rw [show i + (j + 1) = i + 1 + j by omega]; exact hp)
      rw [show i + (j + 1) + 1 = i + 1 + j + 1 by omega] at this
      exact this
    obtain ⟨e3, s3, h3, h4⟩ := go
    refine ⟨e3, s3, ?_, by rw [List.length_cons, show i + (l.length + 1) = i + 1 + l.length by omega]; exact h4⟩
    unfold forR
    rcases h1 with h1 | h1 <;> rw [h1] <;> exact h3
end JM

set_option autoImplicit false
/-! J20: texts. -/
namespace JM
open PySem L2
def mkS (l : List Nat) : Str := ⟨l.toArray⟩
theorem mkS_cps (l : List Nat) : (mkS l).cps.toList = l := by simp [mkS]
theorem mkS_eta (z : Str) : mkS z.cps.toList = z := by
  cases z
  simp [mkS]
theorem mkS_len (l : List Nat) : (mkS l).length = l.length := by
  show l.toArray.size = _
  simp
theorem len_cps (z : Str) : z.length = z.cps.toList.length := by
  show z.cps.size = _
  simp
theorem mkS_app (a b : List Nat) : mkS a ++ mkS b = mkS (a ++ b) := by
  show (⟨a.toArray ++ b.toArray⟩ : Str) = _
  simp [mkS]
theorem cps_app (a b : Str) : (a ++ b).cps.toList = a.cps.toList ++ b.cps.toList := by
  show (a.cps ++ b.cps).toList = _
  simp
theorem len_appS (a b : Str) : (a ++ b).length = a.length + b.length := by rw [len_cps, cps_app, List.length_append, ← len_cps, ← len_cps]
theorem mkS_inj {a b : List Nat} : mkS a = mkS b ↔ a = b := by
  constructor
  · intro h
    have := congrArg (fun z : Str => z.cps.toList) h
    simpa [mkS] using this
  · intro h; rw [h]
theorem str_ext {a b : Str} : a = b ↔ a.cps.toList = b.cps.toList := by
  rw [← mkS_eta a, ← mkS_eta b, mkS_inj, mkS_cps, mkS_cps]
theorem one_mk (c : Nat) : one c = mkS [c] := rfl
theorem repS_mk (l : List Nat) (n : Int) : repS (mkS l) n = mkS (List.replicate n.toNat l).flatten := by
  unfold repS
  rw [mkS_cps]; rfl
theorem repS_cps (z : Str) (n : Int) : (repS z n).cps.toList = (List.replicate n.toNat z.cps.toList).flatten := by simp [repS]
/-- signs below 128 -/
def Asc (z : Str) : Prop := ∀ c ∈ z.cps.toList, c < 128
theorem Asc.app {a b : Str} (h : Asc a) (k : Asc b) : Asc (a ++ b) := fun c hc => by
  rw [cps_app] at hc
  rcases List.mem_append.mp hc with z | z
  · exact h c z
  · exact k c z
theorem Asc.ok {z : Str} (h : Asc z) : PyData.strOk z = true := by
  show z.cps.all (· < 0x110000) = true
  rw [← Array.all_toList, List.all_eq_true]
  intro c hc
  have := h c hc
  simp; omega
theorem upperAsc : ∀ c, c < 128 → ∃ d, Unicode.upperOf c = [d] ∧ d < 128 := by
  have h : ∀ c : Fin 128, (match Unicode.upperOf c.1 with | [d] => decide (d < 128) | _ => false) = true := by decide +kernel
  intro c hc
  have := h ⟨c, hc⟩
  simp only at this
  split at this
  · rename_i d e; exact ⟨d, e, of_decide_eq_true this⟩
  · cases this
theorem upper_cps (z : Str) : (Txt.upper z).cps.toList = (z.cps.toList.map Unicode.upperOf).flatten := by
  show ((z.cps.mapIdx fun i c => (Unicode.upperOf c).toArray).flatten).toList = _
  rw [Array.toList_flatten, Array.toList_mapIdx]
  simp only [List.mapIdx_eq_zipIdx_map, List.map_map]
  congr 1
  have : ∀ (l : List Nat) (i : Nat), (l.zipIdx i).map (Array.toList ∘ fun x => (Unicode.upperOf x.1).toArray) = l.map Unicode.upperOf := by
    intro l
    induction l with
    | nil => intro i; rfl
    | cons x l ih => intro i; rw [List.zipIdx_cons, List.map_cons, ih, List.map_cons]; simp
  exact this _ _
theorem upperL : ∀ {l : List Nat}, (∀ c ∈ l, c < 128) → ((l.map Unicode.upperOf).flatten).length = l.length ∧ ∀ c ∈ (l.map Unicode.upperOf).flatten, c < 128
  | [], _ => ⟨rfl, fun c hc => by simp at hc⟩
  | x :: l, h => by
    obtain ⟨d, e, hd⟩ := upperAsc x (h x (by simp))
    obtain ⟨a, b⟩ := upperL (l := l) fun c hc => h c (by simp [hc])
    rw [List.map_cons, List.flatten_cons, e]
    refine ⟨by rw [List.length_append, a]; simp [Nat.add_comm], fun c hc => ?_⟩
    rcases List.mem_append.mp hc with z | z
    · simp at z; rw [z]; exact hd
    · exact b c z
theorem Asc.upper {z : Str} (h : Asc z) : Asc (Txt.upper z) ∧ (Txt.upper z).length = z.length := by
  obtain ⟨a, b⟩ := upperL h
  refine ⟨fun c hc => b c (by rw [← upper_cps]; exact hc), ?_⟩
  rw [len_cps, upper_cps, a, ← len_cps]
theorem c_upper {z : Str} {s : Sto} (h : Asc z) (k : z.length ≤ 5000000) : bm .upper (.f (.str z)) [] s = .ok (.f (.str (Txt.upper z))) s := by
  show (if z.length ≤ 5592405 ∧ (Txt.upper z).length ≤ sizeLine ∧ PyData.strOk (Txt.upper z) = true then _ else _) = _
  have := sizeLine_eq
  rw [if_pos ⟨by omega, by rw [h.upper.2, sizeLine_eq]; omega, h.upper.1.ok⟩]
/-- one sign sought in a text -/
theorem find_lt {z : Str} {c : Nat} (h : ∀ c ∈ z.cps.toList, 0 ≤ Txt.find z (one c)) : decide (Txt.find z (one c) < 0) = !decide (c ∈ z.cps.toList) := by
  by_cases hc : c ∈ z.cps.toList
  · have := h c hc
    simp [hc]; omega
  · simp only [hc, decide_false, Bool.not_false, decide_eq_true_eq]
    unfold Txt.find
    split
    · rename_i i r e
      have := (PySem.StrLaws.occ_spec z (one c) 0 z.length 1 i (by rw [e]; simp)).2
      exfalso
      apply hc
      unfold PySem.Builtin.Str.subAt at this
      have h2 : z.cps.extract i (i + (one c).length) = #[c] := eq_of_beq this
      have h3 : c ∈ (z.cps.extract i (i + (one c).length)).toList := by rw [h2]; simp
      rw [Array.toList_extract] at h3
      exact List.mem_of_mem_drop (List.mem_of_mem_take h3)
    · decide
theorem b_find (z y : Str) (s : Sto) : bm .find (.f (.str z)) [.f (.str y)] s = .ok (.f (.int (Txt.find z y))) s := rfl
theorem e_inS (c : Nat) (z : Str) (s : Sto) : cIn (.f (.str (one c))) (.f (.str z)) s = .ok (.f (.bl (decide (c ∈ z.cps.toList)))) s := rfl
/-- a text among texts -/
theorem eqD_str (a b : Str) : eqD (.f (.str a)) (.f (.str b)) = decide (a = b) := by
  show (a == b) = _
  rw [Bool.eq_iff_iff]; simp
theorem inSeq_str (z : Str) : ∀ l : List Str, inSeq (.f (.str z)) (l.map fun y => .f (.str y)) = decide (z ∈ l)
  | [] => rfl
  | y :: l => by
    unfold inSeq
    rw [List.map_cons, List.any_cons, eqD_str]
    have := inSeq_str z l
    unfold inSeq at this
    rw [this, Bool.eq_iff_iff]
    simp only [Bool.or_eq_true, decide_eq_true_eq, List.mem_cons]
    constructor
    · rintro (h | h)
      · exact .inl h.symm
      · exact .inr h
    · rintro (h | h)
      · exact .inl h.symm
      · exact .inr h
theorem flat_strs : ∀ l : List Str, (l.map fun y => D.f (.str y)).all flatD = true
  | [] => rfl
  | y :: l => by rw [List.map_cons, List.all_cons, flat_strs l]; rfl
theorem e_inK (z : Str) (l : List Str) (s : Sto) : cIn (.f (.str z)) (.f (.ktup (l.map F.str))) s = .ok (.f (.bl (decide (z ∈ l)))) s := by
  have : hasIn (.f (.str z)) (.f (.ktup (l.map F.str))) s = some (decide (z ∈ l)) := by
    unfold hasIn
    simp only [dGet, seqL, seqT, Option.or]
    rw [List.map_map]
    have e : (D.f ∘ F.str) = fun y => D.f (.str y) := rfl
    rw [e, flat_strs, inSeq_str]
    rfl
  unfold cIn
  rw [this]
theorem e_inL (z : Str) (l : List Str) (s : Sto) : cIn (.f (.str z)) (.f (.lst (l.map F.str))) s = .ok (.f (.bl (decide (z ∈ l)))) s := by
  have : hasIn (.f (.str z)) (.f (.lst (l.map F.str))) s = some (decide (z ∈ l)) := by
    unfold hasIn
    simp only [dGet, seqL, seqT, Option.or]
    rw [List.map_map]
    have e : (D.f ∘ F.str) = fun y => D.f (.str y) := rfl
    rw [e, flat_strs, inSeq_str]
    rfl
  unfold cIn
  rw [this]
theorem c_mulT {m : Bool} {s : Sto} (l : List F) (j : Int) (h : 0 < l.length ∧ l.length ≤ 1000) (k : 2 ≤ j ∧ j ≤ 1000) : bMul m (.f (.tup l)) (.f (.int j)) s = .ok (.f (.tup (List.replicate j.toNat l).flatten)) s := by
  rw [e_mulT, if_pos ⟨fun z => by rw [z] at h; simp at h, k.1, k.2, h.2⟩]
theorem t_up (z : Str) (s : Sto) : bmTy .upper (.f (.str z)) s = true := rfl
theorem t_find (z : Str) (s : Sto) : bmTy .find (.f (.str z)) s = true := rfl
theorem t_split (m : Bool) (z : Str) (s : Sto) : bmTy (.split m) (.f (.str z)) s = true := rfl
theorem t_join (z : Str) (s : Sto) : bmTy .join (.f (.str z)) s = true := rfl
theorem c_strI {i : Int} {s : Sto} (h : -1000000000000 < i ∧ i < 1000000000000) : bi .str [.f (.int i)] s = .ok (.f (.str (strI i))) s := by
  have h1 : i.natAbs.log2 < 1920 := by
    have : i.natAbs < 2 ^ 1920 := Nat.lt_of_lt_of_le (show i.natAbs < 1000000000000 by omega) (by decide)
    by_cases h0 : i.natAbs = 0
    · rw [h0]; decide
    · exact (Nat.log2_lt h0).mpr this
  have h2 : (strI i).length ≤ sizeLine := by
    unfold strI
    rw [sizeLine_eq]
    by_cases hi : 0 ≤ i
    · exact Nat.le_trans (PyProof.Rows.toString_length_le hi (k := 12) (by decide) (by omega)) (by decide)
    · have hn := PyProof.Rows.toString_length_le (v := -i) (by omega) (k := 12) (by decide) (by omega)
      obtain ⟨m, rfl⟩ : ∃ m : Nat, i = -((m + 1 : Nat) : Int) := ⟨(-i).toNat - 1, by omega⟩
      rw [PyProof.Rows.ofString_length] at hn ⊢
      have e : toString (-((m + 1 : Nat) : Int)) = "-" ++ toString (- -((m + 1 : Nat) : Int)) := by
        rw [Int.neg_neg]; rfl
      rw [e, String.toList_append, List.length_append]
      have : ("-" : String).toList.length = 1 := rfl
      omega
  rw [e_strI, if_pos ⟨h1, h2⟩]
/-! ### truths of all of them -/
theorem boolsOf_map (l : List Bool) : boolsOf (l.map fun b => D.f (.bl b)) = some l := by
  induction l with
  | nil => rfl
  | cons b l ih =>
    show (boolsOf (l.map fun b => D.f (.bl b))).map (b :: ·) = _
    rw [ih]; rfl
theorem all_lst (l : List Bool) (s : Sto) : bi .all [.f (.lst (l.map F.bl))] s = .ok (.f (.bl (l.all id))) s := by
  show (match (some ((l.map F.bl).map D.f)).bind boolsOf with | some bs => R.ok (D.f (.bl (bs.all id))) s | none => .fail) = _
  have : ((l.map F.bl).map D.f) = l.map fun b => D.f (.bl b) := by rw [List.map_map]; rfl
  rw [this, Option.bind_some, boolsOf_map]
theorem lstF (l : List F) (h : l.length ≤ 16777216) (s : Sto) : newL false (l.map D.f) s = .ok (.f (.lst l)) s := c_newL l h
end JM

set_option autoImplicit false
/-! J21: one step of the small language at a time. -/
namespace JM
open PySem L2
section ev
variable {call mk : Nat → List D → Sto → R D} {sub : Nat → Nat → Bool} {env : Env'} {s : Sto}
theorem x_k (d : F) : evE call mk (.k d) env s = .ok (.f d) s := rfl
theorem x_g (y : Str) (d : F) : evE call mk (.g y d) env s = .ok (.f d) s := rfl
theorem x_v (i : Nat) : evE call mk (.v i) env s = (match env[i]? with | some (some d) => .ok d s | _ => .fail) := rfl
theorem x_bin (o : BO) (a b : E) : evE call mk (.bin o a b) env s = (evE call mk a env s).bind fun d s => (evE call mk b env s).bind fun e s => o.ev d e s := rfl
theorem x_neg (a : E) : evE call mk (.neg a) env s = (evE call mk a env s).bind fun d s => negD d s := rfl
theorem x_cmp (o : CO) (a b : E) : evE call mk (.cmp o a b) env s = (evE call mk a env s).bind fun d s => (evE call mk b env s).bind fun e s => o.ev d e s := rfl
theorem x_chn (o o' : CO) (a b c : E) : evE call mk (.chn o o' a b c) env s = (evE call mk a env s).bind fun d s => (evE call mk b env s).bind fun e s => (o.ev d e s).bind fun r s => (match r with
    | .f (.bl true) => (evE call mk c env s).bind fun x s => o'.ev e x s
    | .f (.bl false) => .ok (.f (.bl false)) s
    | _ => .fail) := rfl
theorem x_and (l : List E) : evE call mk (.and l) env s = evAnd call mk l env s := rfl
theorem x_or (l : List E) : evE call mk (.or l) env s = evOr call mk l env s := rfl
theorem x_not (a : E) : evE call mk (.not a) env s = (evE call mk a env s).bind fun d s => (match d with | .f (.bl b) => .ok (.f (.bl !b)) s | _ => .fail) := rfl
theorem x_ite (c a b : E) : evE call mk (.ite c a b) env s = (evE call mk c env s).bind fun d s => (match d with | .f (.bl true) => evE call mk a env s | .f (.bl false) => evE call mk b env s | _ => .fail) := rfl
theorem x_tup (l : List E) : evE call mk (.tup l) env s = (evEs call mk l env s).bind fun ds s => newT ds s := rfl
theorem x_lst (m : Bool) (l : List E) : evE call mk (.lst m l) env s = (evEs call mk l env s).bind fun ds s => newL m ds s := rfl
theorem x_idx (a i : E) : evE call mk (.idx a i) env s = (evE call mk a env s).bind fun d s => (evE call mk i env s).bind fun e s => cIdx d e s := rfl
theorem x_sl (m : Bool) (a : E) (lo hi : Option E) : evE call mk (.sl m a lo hi) env s = (evE call mk a env s).bind fun d s => (evO call mk lo env s).bind fun l s => (evO call mk hi env s).bind fun h s => cSl m d l h s := rfl
theorem x_rev (m : Bool) (a : E) : evE call mk (.rev m a) env s = (evE call mk a env s).bind fun d s => cRev m d s := rfl
theorem x_call (f : Nat) (l : List E) : evE call mk (.call f l) env s = (evEs call mk l env s).bind fun ds s => (match allF ds with | some _ => pureR s (call f ds []) | none => .fail) := rfl
theorem x_calli (f : Nat) (l : List E) : evE call mk (.calli f l) env s = (evEs call mk l env s).bind fun ds s => call f ds s := rfl
theorem x_bi (b : Bi) (l : List E) : evE call mk (.bi b l) env s = (evEs call mk l env s).bind fun ds s => bi b ds s := rfl
theorem x_bm (b : Bm) (o : E) (l : List E) : evE call mk (.bm b o l) env s = (evE call mk o env s).bind fun d s => if bmTy b d s then (evEs call mk l env s).bind fun ds s => bm b d ds s else .fail := rfl
theorem x_isi (a : E) (t : Ty) : evE call mk (.isi a t) env s = (evE call mk a env s).bind fun d s => isiD d [t] s := rfl
theorem p_ok (y : F) (t : Sto) : pureR s (.ok (.f y) t) = .ok (.f y) s := rfl
theorem x_nil : evEs call mk [] env s = .ok [] s := rfl
theorem x_cons (e : E) (l : List E) : evEs call mk (e :: l) env s = (evE call mk e env s).bind fun d s => (evEs call mk l env s).bind fun ds s => .ok (d :: ds) s := rfl
theorem x_and1 (e : E) : evAnd call mk [e] env s = (evE call mk e env s).bind fun d s => (match d with | .f (.bl b) => .ok (.f (.bl b)) s | _ => .fail) := rfl
theorem x_andC (e e' : E) (l : List E) : evAnd call mk (e :: e' :: l) env s = (evE call mk e env s).bind fun d s => (match d with | .f (.bl b) => if b then evAnd call mk (e' :: l) env s else .ok (.f (.bl false)) s | _ => .fail) := rfl
theorem x_or1 (e : E) : evOr call mk [e] env s = (evE call mk e env s).bind fun d s => (match d with | .f (.bl b) => .ok (.f (.bl b)) s | _ => .fail) := rfl
theorem x_orC (e e' : E) (l : List E) : evOr call mk (e :: e' :: l) env s = (evE call mk e env s).bind fun d s => (match d with | .f (.bl b) => if b then .ok (.f (.bl true)) s else evOr call mk (e' :: l) env s | _ => .fail) := rfl
theorem x_o0 : evO call mk none env s = .ok none s := rfl
theorem x_o1 (e : E) : evO call mk (some e) env s = (evE call mk e env s).bind fun d s => (match d with | .f (.int i) => .ok (some i) s | _ => .fail) := rfl
theorem y_seq (e : E) : evIt call mk (.seq e) env s = (evE call mk e env s).bind fun d s => (match itemsD d with | some l => .ok l s | none => .fail) := rfl
theorem y_rng1 (e : E) : evIt call mk (.rng1 e) env s = (evE call mk e env s).bind fun d s => (match d with | .f (.int i) => if inRng i then .ok (rngL 0 i.toNat) s else .fail | _ => .fail) := rfl
theorem y_rng2 (a b : E) : evIt call mk (.rng2 a b) env s = (evE call mk a env s).bind fun d s => (evE call mk b env s).bind fun e s => (match d, e with
    | .f (.int i), .f (.int j) => if inRng i && inRng j then .ok (rngL i (j - i).toNat) s else .fail
    | _, _ => .fail) := rfl
theorem z_set (i : Nat) (e : E) : exS call mk sub (.set i e) env s = (evE call mk e env s).go env fun d s => .nx (env.set i (some d)) s := rfl
theorem z_unp (l : List Nat) (e : E) : exS call mk sub (.unp l e) env s = (evE call mk e env s).go env fun d s => (match bindP (.tup l) d s env with | some env' => .nx env' s | none => .fail) := rfl
theorem z_ret (e : E) : exS call mk sub (.ret e) env s = (evE call mk e env s).go env fun d s => .rt d s := rfl
theorem z_retN : exS call mk sub .retN env s = .rt (.f .non) s := rfl
theorem z_ex (e : E) : exS call mk sub (.ex e) env s = (evE call mk e env s).go env fun _ s => .nx env s := rfl
theorem z_ite (c : E) (a b : List S) : exS call mk sub (.ite c a b) env s = (evE call mk c env s).go env fun d s => (match d with | .f (.bl true) => exSs call mk sub a env s | .f (.bl false) => exSs call mk sub b env s | _ => .fail) := rfl
theorem z_brk : exS call mk sub .brk env s = .bk env s := rfl
theorem z_cnt : exS call mk sub .cnt env s = .ct env s := rfl
theorem z_pas : exS call mk sub .pas env s = .nx env s := rfl
theorem z_nil : exSs call mk sub [] env s = .nx env s := rfl
theorem z_cons (x : S) (l : List S) : exSs call mk sub (x :: l) env s = (exS call mk sub x env s).bind fun env s => exSs call mk sub l env s := rfl
theorem at0 {α : Type} (a : α) (l : List α) : atI (a :: l) 0 = some a := by rw [atI_get _ _ (by decide) (by simp only [List.length_cons]; omega)]; rfl
theorem at1 {α : Type} (a b : α) (l : List α) : atI (a :: b :: l) 1 = some b := by rw [atI_get _ _ (by decide) (by simp only [List.length_cons]; omega)]; rfl
theorem at2 {α : Type} (a b c : α) (l : List α) : atI (a :: b :: c :: l) 2 = some c := by rw [atI_get _ _ (by decide) (by simp only [List.length_cons]; omega)]; rfl
theorem at3 {α : Type} (a b c d : α) (l : List α) : atI (a :: b :: c :: d :: l) 3 = some d := by rw [atI_get _ _ (by decide) (by simp only [List.length_cons]; omega)]; rfl
theorem at4 {α : Type} (a b c d e : α) (l : List α) : atI (a :: b :: c :: d :: e :: l) 4 = some e := by rw [atI_get _ _ (by decide) (by simp only [List.length_cons]; omega)]; rfl
section isi
variable {t : Ty} {s : Sto}
theorem i_non : isiD (.f .non) [t] s = .ok (.f (.bl (tyIs t .non))) s := by simp [isiD]
theorem i_bl (b : Bool) : isiD (.f (.bl b)) [t] s = .ok (.f (.bl (tyIs t (.bl b)))) s := by simp [isiD]
theorem i_int (b : Int) : isiD (.f (.int b)) [t] s = .ok (.f (.bl (tyIs t (.int b)))) s := by simp [isiD]
theorem i_str (b : Str) : isiD (.f (.str b)) [t] s = .ok (.f (.bl (tyIs t (.str b)))) s := by simp [isiD]
theorem i_tup (b : List F) : isiD (.f (.tup b)) [t] s = .ok (.f (.bl (tyIs t (.tup b)))) s := by simp [isiD]
theorem i_lst (b : List F) : isiD (.f (.lst b)) [t] s = .ok (.f (.bl (tyIs t (.lst b)))) s := by simp [isiD]
end isi
theorem k_and (b c : Bool) : (if b = true then R.ok (D.f (F.bl c)) s else R.ok (D.f (F.bl false)) s) = R.ok (D.f (F.bl (b && c))) s := by cases b <;> rfl
theorem k_or (b c : Bool) : (if b = true then R.ok (D.f (F.bl true)) s else R.ok (D.f (F.bl c)) s) = R.ok (D.f (F.bl (b || c))) s := by cases b <;> rfl
theorem x_dst (a : E) : evE call mk (.dst a) env s = (evE call mk a env s).bind fun d s => dstD d s := rfl
theorem e_inT (z : Str) (l : List Str) (s : Sto) : cIn (.f (.str z)) (.f (.tup (l.map F.str))) s = .ok (.f (.bl (decide (z ∈ l)))) s := by
  have : hasIn (.f (.str z)) (.f (.tup (l.map F.str))) s = some (decide (z ∈ l)) := by
    unfold hasIn
    simp only [dGet, seqL, seqT, Option.or]
    rw [List.map_map]
    have e : (D.f ∘ F.str) = fun y => D.f (.str y) := rfl
    rw [e, flat_strs, inSeq_str]
    rfl
  unfold cIn
  rw [this]
theorem e_in2 (z a b : Str) (s : Sto) : cIn (.f (.str z)) (.f (.tup [.str a, .str b])) s = .ok (.f (.bl (decide (z = a) || decide (z = b)))) s := by
  have := e_inT z [a, b] s
  rw [show ([a, b].map F.str) = [.str a, .str b] from rfl] at this
  rw [this]
  congr 3
  rw [Bool.eq_iff_iff]; simp
theorem e_in3 (z a b c : Str) (s : Sto) : cIn (.f (.str z)) (.f (.tup [.str a, .str b, .str c])) s = .ok (.f (.bl (decide (z = a) || decide (z = b) || decide (z = c)))) s := by
  have := e_inT z [a, b, c] s
  rw [show ([a, b, c].map F.str) = [.str a, .str b, .str c] from rfl] at this
  rw [this]
  congr 3
  rw [Bool.eq_iff_iff]; simp [or_assoc]
theorem strsOf_map : ∀ l : List Str, strsOf (l.map fun z => D.f (.str z)) = some l
  | [] => rfl
  | z :: l => by
    show (strsOf (l.map fun z => D.f (.str z))).map (z :: ·) = _
    rw [strsOf_map l]; rfl
theorem dst_tup (l : List Str) (h : l.length ≤ 1000) (s : Sto) : dstD (.f (.tup (l.map F.str))) s = .ok (.f (.int (dst l : Nat))) s := by
  unfold dstD
  have e : (seqA (.f (.tup (l.map F.str))) s).bind strsOf = some l := by
    show strsOf ((l.map F.str).map D.f) = _
    rw [List.map_map]
    exact strsOf_map l
  rw [e]
  simp only [h, if_true]
theorem dst_lst (l : List Str) (h : l.length ≤ 1000) (s : Sto) : dstD (.f (.lst (l.map F.str))) s = .ok (.f (.int (dst l : Nat))) s := by
  unfold dstD
  have e : (seqA (.f (.lst (l.map F.str))) s).bind strsOf = some l := by
    show strsOf ((l.map F.str).map D.f) = _
    rw [List.map_map]
    exact strsOf_map l
  rw [e]
  simp only [h, if_true]
theorem d_lt1 {a b : Int} (h : a < b) : decide (a < b) = true := decide_eq_true h
theorem d_lt0 {a b : Int} (h : ¬ a < b) : decide (a < b) = false := decide_eq_false h
theorem d_le1 {a b : Int} (h : a ≤ b) : decide (a ≤ b) = true := decide_eq_true h
theorem d_le0 {a b : Int} (h : ¬ a ≤ b) : decide (a ≤ b) = false := decide_eq_false h
theorem d_eq1 {a b : Int} (h : a = b) : decide (a = b) = true := decide_eq_true h
theorem d_eq0 {a b : Int} (h : ¬ a = b) : decide (a = b) = false := decide_eq_false h
theorem inR {i : Int} (h : -4000000000000000000 ≤ i ∧ i < 4000000000000000000) : inRng i = true := by simp [inRng]; omega
theorem rngL_get {lo : Int} {n j : Nat} {x : D} (h : (rngL lo n)[j]? = some x) : j < n ∧ x = .f (.int (lo + (j : Nat))) := by
  unfold rngL at h
  rw [List.getElem?_map] at h
  by_cases hj : j < n
  · rw [List.getElem?_range hj] at h
    simp at h
    exact ⟨hj, h.symm⟩
  · rw [List.getElem?_eq_none (by simpa using hj)] at h
    cases h
theorem rngL_len (lo : Int) (n : Nat) : (rngL lo n).length = n := by simp [rngL]
/-- a for that goes on to its end -/
theorem for_run {p : Pat} {it : It} {b : List S} {items : List D} (hi : evIt call mk it env s = .ok items s) (P : Nat → Env' → Sto → Prop) (h0 : P 0 env s)
    (st : ∀ (j : Nat) x env s, items[j]? = some x → P j env s → ∃ env1 env2 s2, bindP p x s env = some env1 ∧ (exSs call mk sub b env1 s = .nx env2 s2 ∨ exSs call mk sub b env1 s = .ct env2 s2) ∧ P (j + 1) env2 s2) :
    ∃ env' s', exS call mk sub (.for_ p it b) env s = .nx env' s' ∧ P items.length env' s' := by
  have e : exS call mk sub (.for_ p it b) env s = (evIt call mk it env s).go env fun items s => forR (fun x env s => match bindP p x s env with | some env' => exSs call mk sub b env' s | none => .fail) items env s := rfl
  rw [e, hi, R.go_ok]
  obtain ⟨e1, s1, h1, h2⟩ := forR_inv (f := fun x env s => match bindP p x s env with | some env' => exSs call mk sub b env' s | none => .fail) (P := P) (l := items) (i := 0) h0 fun j x env s hx hp => by
    rw [Nat.zero_add] at hp
    obtain ⟨env1, env2, s2, a, b, c⟩ := st j x env s hx hp
    rw [Nat.zero_add]
    exact ⟨env2, s2, by simp only [a]; exact b, c⟩
  rw [Nat.zero_add] at h2
  exact ⟨e1, s1, h1, h2⟩
/-- a comprehension over things, each of which gives a thing or nothing -/
theorem lc_run {it : It} {p : Pat} {c : Option E} {e : E} {items : List D} {g : D → Option F} (hi : evIt call mk it env s = .ok items s)
    (st : ∀ x ∈ items, ∃ env', bindP p x s env = some env' ∧ turnF (c.map (evE call mk)) (evE call mk e) env' s = .ok ((g x).map .f) s) (hl : items.length ≤ 16777216) :
    evE call mk (.lc false it p c e) env s = .ok (.f (.lst (items.filterMap g))) s := by
  rw [lc_eq]
  unfold lcR
  rw [hi, R.bind_ok, mapR_ok (g := fun x => (g x).map .f) fun x hx => by
    obtain ⟨env', a, b⟩ := st x hx
    simp only [a, b]]
  rw [R.bind_ok]
  have : items.filterMap (fun x => (g x).map D.f) = (items.filterMap g).map D.f := by rw [List.map_filterMap]
  rw [this, c_newL _ (Nat.le_trans (List.length_filterMap_le _ _) hl)]
  rfl
theorem mapR_map {α : Type} {f : D → Sto → R (Option D)} {h : α → D} {g : α → Option D} {s : Sto} : ∀ {l : List α}, (∀ x ∈ l, f (h x) s = .ok (g x) s) → mapR f (l.map h) s = .ok (l.filterMap g) s
  | [], _ => rfl
  | x :: l, hh => by
    rw [List.map_cons]
    unfold mapR
    rw [hh x (by simp), R.bind_ok, mapR_map (l := l) fun y hy => hh y (by simp [hy]), R.bind_ok, List.filterMap_cons]
    cases g x <;> rfl
theorem lc_map {α : Type} {it : It} {p : Pat} {c : Option E} {e : E} {l : List α} {h : α → D} {g : α → Option F} (hi : evIt call mk it env s = .ok (l.map h) s)
    (st : ∀ x ∈ l, ∃ env', bindP p (h x) s env = some env' ∧ turnF (c.map (evE call mk)) (evE call mk e) env' s = .ok ((g x).map .f) s) (hl : l.length ≤ 16777216) :
    evE call mk (.lc false it p c e) env s = .ok (.f (.lst (l.filterMap g))) s := by
  rw [lc_eq]
  unfold lcR
  rw [hi, R.bind_ok, mapR_map (g := fun x => (g x).map .f) fun x hx => by
    obtain ⟨env', a, b⟩ := st x hx
    simp only [a, b]]
  rw [R.bind_ok]
  have : l.filterMap (fun x => (g x).map D.f) = (l.filterMap g).map D.f := by rw [List.map_filterMap]
  rw [this, c_newL _ (Nat.le_trans (List.length_filterMap_le _ _) hl)]
  rfl
theorem fm_some {α β : Type} {f : α → β} : ∀ l : List α, (l.filterMap fun c => some (f c)) = l.map f
  | [] => rfl
  | x :: l => by simp [fm_some l]
theorem pickF {α : Type} {l : List α} {Q : α → F → Prop} (h : ∀ x ∈ l, ∃ y, Q x y) : ∃ g : α → F, ∀ x ∈ l, Q x (g x) := by
  classical
  refine ⟨fun x => if hx : x ∈ l then Classical.choose (h x hx) else .non, fun x hx => ?_⟩
  simp only [hx, dif_pos]
  exact Classical.choose_spec (h x hx)
theorem it_str (z : Str) : itemsD (.f (.str z)) = some (z.cps.toList.map fun c => .f (.str (one c))) := rfl
theorem it_tup (l : List F) : itemsD (.f (.tup l)) = some (l.map .f) := rfl
theorem it_lst (l : List F) : itemsD (.f (.lst l)) = some (l.map .f) := rfl
theorem turn_none {fe : Env' → Sto → R D} {x : F} (h : fe env s = .ok (.f x) s) : turnF none fe env s = .ok (some (.f x)) s := by
  unfold turnF
  simp only [h, R.bind_ok]
theorem turn_yes {fc fe : Env' → Sto → R D} {x : F} (hc : fc env s = .ok (.f (.bl true)) s) (h : fe env s = .ok (.f x) s) : turnF (some fc) fe env s = .ok (some (.f x)) s := by
  unfold turnF
  simp only [hc, h, R.bind_ok]
theorem turn_no {fc fe : Env' → Sto → R D} (hc : fc env s = .ok (.f (.bl false)) s) : turnF (some fc) fe env s = .ok none s := by
  unfold turnF
  simp only [hc, R.bind_ok]
end ev
theorem ne_if_while : (Str.ofString "if" = Str.ofString "while") = False := eq_false (by decide)
theorem ne_if_do : (Str.ofString "if" = Str.ofString "do") = False := eq_false (by decide)
theorem ne_if_give : (Str.ofString "if" = Str.ofString "give") = False := eq_false (by decide)
theorem ne_if_tell : (Str.ofString "if" = Str.ofString "tell") = False := eq_false (by decide)
theorem ne_if_get : (Str.ofString "if" = Str.ofString "get") = False := eq_false (by decide)
theorem ne_if_let : (Str.ofString "if" = Str.ofString "let") = False := eq_false (by decide)
theorem ne_if_hand : (Str.ofString "if" = Str.ofString "hand") = False := eq_false (by decide)
theorem ne_if_new : (Str.ofString "if" = Str.ofString "new") = False := eq_false (by decide)
theorem ne_if_await : (Str.ofString "if" = Str.ofString "await") = False := eq_false (by decide)
theorem ne_while_if : (Str.ofString "while" = Str.ofString "if") = False := eq_false (by decide)
theorem ne_while_do : (Str.ofString "while" = Str.ofString "do") = False := eq_false (by decide)
theorem ne_while_give : (Str.ofString "while" = Str.ofString "give") = False := eq_false (by decide)
theorem ne_while_tell : (Str.ofString "while" = Str.ofString "tell") = False := eq_false (by decide)
theorem ne_while_get : (Str.ofString "while" = Str.ofString "get") = False := eq_false (by decide)
theorem ne_while_let : (Str.ofString "while" = Str.ofString "let") = False := eq_false (by decide)
theorem ne_while_hand : (Str.ofString "while" = Str.ofString "hand") = False := eq_false (by decide)
theorem ne_while_new : (Str.ofString "while" = Str.ofString "new") = False := eq_false (by decide)
theorem ne_while_await : (Str.ofString "while" = Str.ofString "await") = False := eq_false (by decide)
theorem ne_do_if : (Str.ofString "do" = Str.ofString "if") = False := eq_false (by decide)
theorem ne_do_while : (Str.ofString "do" = Str.ofString "while") = False := eq_false (by decide)
theorem ne_do_give : (Str.ofString "do" = Str.ofString "give") = False := eq_false (by decide)
theorem ne_do_tell : (Str.ofString "do" = Str.ofString "tell") = False := eq_false (by decide)
theorem ne_do_get : (Str.ofString "do" = Str.ofString "get") = False := eq_false (by decide)
theorem ne_do_let : (Str.ofString "do" = Str.ofString "let") = False := eq_false (by decide)
theorem ne_do_hand : (Str.ofString "do" = Str.ofString "hand") = False := eq_false (by decide)
theorem ne_do_new : (Str.ofString "do" = Str.ofString "new") = False := eq_false (by decide)
theorem ne_do_await : (Str.ofString "do" = Str.ofString "await") = False := eq_false (by decide)
theorem ne_give_if : (Str.ofString "give" = Str.ofString "if") = False := eq_false (by decide)
theorem ne_give_while : (Str.ofString "give" = Str.ofString "while") = False := eq_false (by decide)
theorem ne_give_do : (Str.ofString "give" = Str.ofString "do") = False := eq_false (by decide)
theorem ne_give_tell : (Str.ofString "give" = Str.ofString "tell") = False := eq_false (by decide)
theorem ne_give_get : (Str.ofString "give" = Str.ofString "get") = False := eq_false (by decide)
theorem ne_give_let : (Str.ofString "give" = Str.ofString "let") = False := eq_false (by decide)
theorem ne_give_hand : (Str.ofString "give" = Str.ofString "hand") = False := eq_false (by decide)
theorem ne_give_new : (Str.ofString "give" = Str.ofString "new") = False := eq_false (by decide)
theorem ne_give_await : (Str.ofString "give" = Str.ofString "await") = False := eq_false (by decide)
theorem ne_tell_if : (Str.ofString "tell" = Str.ofString "if") = False := eq_false (by decide)
theorem ne_tell_while : (Str.ofString "tell" = Str.ofString "while") = False := eq_false (by decide)
theorem ne_tell_do : (Str.ofString "tell" = Str.ofString "do") = False := eq_false (by decide)
theorem ne_tell_give : (Str.ofString "tell" = Str.ofString "give") = False := eq_false (by decide)
theorem ne_tell_get : (Str.ofString "tell" = Str.ofString "get") = False := eq_false (by decide)
theorem ne_tell_let : (Str.ofString "tell" = Str.ofString "let") = False := eq_false (by decide)
theorem ne_tell_hand : (Str.ofString "tell" = Str.ofString "hand") = False := eq_false (by decide)
theorem ne_tell_new : (Str.ofString "tell" = Str.ofString "new") = False := eq_false (by decide)
theorem ne_tell_await : (Str.ofString "tell" = Str.ofString "await") = False := eq_false (by decide)
theorem ne_get_if : (Str.ofString "get" = Str.ofString "if") = False := eq_false (by decide)
theorem ne_get_while : (Str.ofString "get" = Str.ofString "while") = False := eq_false (by decide)
theorem ne_get_do : (Str.ofString "get" = Str.ofString "do") = False := eq_false (by decide)
theorem ne_get_give : (Str.ofString "get" = Str.ofString "give") = False := eq_false (by decide)
theorem ne_get_tell : (Str.ofString "get" = Str.ofString "tell") = False := eq_false (by decide)
theorem ne_get_let : (Str.ofString "get" = Str.ofString "let") = False := eq_false (by decide)
theorem ne_get_hand : (Str.ofString "get" = Str.ofString "hand") = False := eq_false (by decide)
theorem ne_get_new : (Str.ofString "get" = Str.ofString "new") = False := eq_false (by decide)
theorem ne_get_await : (Str.ofString "get" = Str.ofString "await") = False := eq_false (by decide)
theorem ne_let_if : (Str.ofString "let" = Str.ofString "if") = False := eq_false (by decide)
theorem ne_let_while : (Str.ofString "let" = Str.ofString "while") = False := eq_false (by decide)
theorem ne_let_do : (Str.ofString "let" = Str.ofString "do") = False := eq_false (by decide)
theorem ne_let_give : (Str.ofString "let" = Str.ofString "give") = False := eq_false (by decide)
theorem ne_let_tell : (Str.ofString "let" = Str.ofString "tell") = False := eq_false (by decide)
theorem ne_let_get : (Str.ofString "let" = Str.ofString "get") = False := eq_false (by decide)
theorem ne_let_hand : (Str.ofString "let" = Str.ofString "hand") = False := eq_false (by decide)
theorem ne_let_new : (Str.ofString "let" = Str.ofString "new") = False := eq_false (by decide)
theorem ne_let_await : (Str.ofString "let" = Str.ofString "await") = False := eq_false (by decide)
theorem ne_hand_if : (Str.ofString "hand" = Str.ofString "if") = False := eq_false (by decide)
theorem ne_hand_while : (Str.ofString "hand" = Str.ofString "while") = False := eq_false (by decide)
theorem ne_hand_do : (Str.ofString "hand" = Str.ofString "do") = False := eq_false (by decide)
theorem ne_hand_give : (Str.ofString "hand" = Str.ofString "give") = False := eq_false (by decide)
theorem ne_hand_tell : (Str.ofString "hand" = Str.ofString "tell") = False := eq_false (by decide)
theorem ne_hand_get : (Str.ofString "hand" = Str.ofString "get") = False := eq_false (by decide)
theorem ne_hand_let : (Str.ofString "hand" = Str.ofString "let") = False := eq_false (by decide)
theorem ne_hand_new : (Str.ofString "hand" = Str.ofString "new") = False := eq_false (by decide)
theorem ne_hand_await : (Str.ofString "hand" = Str.ofString "await") = False := eq_false (by decide)
theorem ne_new_if : (Str.ofString "new" = Str.ofString "if") = False := eq_false (by decide)
theorem ne_new_while : (Str.ofString "new" = Str.ofString "while") = False := eq_false (by decide)
theorem ne_new_do : (Str.ofString "new" = Str.ofString "do") = False := eq_false (by decide)
theorem ne_new_give : (Str.ofString "new" = Str.ofString "give") = False := eq_false (by decide)
theorem ne_new_tell : (Str.ofString "new" = Str.ofString "tell") = False := eq_false (by decide)
theorem ne_new_get : (Str.ofString "new" = Str.ofString "get") = False := eq_false (by decide)
theorem ne_new_let : (Str.ofString "new" = Str.ofString "let") = False := eq_false (by decide)
theorem ne_new_hand : (Str.ofString "new" = Str.ofString "hand") = False := eq_false (by decide)
theorem ne_new_await : (Str.ofString "new" = Str.ofString "await") = False := eq_false (by decide)
theorem ne_await_if : (Str.ofString "await" = Str.ofString "if") = False := eq_false (by decide)
theorem ne_await_while : (Str.ofString "await" = Str.ofString "while") = False := eq_false (by decide)
theorem ne_await_do : (Str.ofString "await" = Str.ofString "do") = False := eq_false (by decide)
theorem ne_await_give : (Str.ofString "await" = Str.ofString "give") = False := eq_false (by decide)
theorem ne_await_tell : (Str.ofString "await" = Str.ofString "tell") = False := eq_false (by decide)
theorem ne_await_get : (Str.ofString "await" = Str.ofString "get") = False := eq_false (by decide)
theorem ne_await_let : (Str.ofString "await" = Str.ofString "let") = False := eq_false (by decide)
theorem ne_await_hand : (Str.ofString "await" = Str.ofString "hand") = False := eq_false (by decide)
theorem ne_await_new : (Str.ofString "await" = Str.ofString "new") = False := eq_false (by decide)
end JM

set_option autoImplicit false
/-! J22: the steps in bundles. -/
namespace JM
open PySem L2
def evA := And.intro @x_k (And.intro @x_g (And.intro @x_v (And.intro @x_bin (And.intro @x_neg (And.intro @x_cmp (And.intro @x_chn (And.intro @x_and (And.intro @x_or (And.intro @x_not (And.intro @x_ite (And.intro @x_tup (And.intro @x_lst (And.intro @x_idx (And.intro @x_sl (And.intro @x_rev (And.intro @x_call (And.intro @x_calli (And.intro @x_bi (And.intro @x_bm (And.intro @x_isi (And.intro @x_nil (And.intro @x_cons (And.intro @x_and1 (And.intro @x_andC (And.intro @x_or1 (And.intro @x_orC (And.intro @x_o0 (And.intro @x_o1 (And.intro @y_seq (And.intro @y_rng1 (And.intro @y_rng2 (And.intro @z_set (And.intro @z_unp (And.intro @z_ret (And.intro @z_retN (And.intro @z_ex (And.intro @z_ite (And.intro @z_brk (And.intro @z_cnt (And.intro @z_pas (And.intro @z_nil (And.intro @z_cons (And.intro @inR (And.intro @it_str (And.intro @it_tup (And.intro @it_lst (And.intro @R.bind_ok (And.intro @R.go_ok (And.intro @R.bind_exc (And.intro @R.go_exc (And.intro @O.bind_nx (And.intro @O.bind_rt (And.intro @O.bind_ct (And.intro @O.bind_bk (And.intro @e_isi (And.intro @e_add (And.intro @e_sub (And.intro @e_neg (And.intro @e_lt (And.intro @e_le (And.intro @e_gt (And.intro @e_ge (And.intro @e_eq (And.intro @e_eqS (And.intro @e_eqB (And.intro @e_ne (And.intro @e_neS (And.intro @e_lenS (And.intro @e_lenT (And.intro @e_lenL (And.intro @e_lenR (And.intro @e_intB (And.intro @e_intI (And.intro @e_abs (And.intro @e_ixR (And.intro @c_addS (And.intro @c_addT (And.intro @c_addL (And.intro @c_mulL (And.intro @c_mulR (And.intro @c_fdiv (And.intro @c_mod (And.intro @c_pow (And.intro @c_mulS (And.intro @c_mulT (And.intro @c_upper (And.intro @c_strI (And.intro @t_up (And.intro @t_find (And.intro @t_split (And.intro @t_join (And.intro @b_find (And.intro @e_slS (And.intro @e_slT (And.intro @c_slL (And.intro @e_rvS (And.intro @e_rvT (And.intro @e_ixS (And.intro @e_ixL (And.intro @e_ixT (And.intro @c_new (And.intro @c_tup (And.intro @allF_f (And.intro @c_listT (And.intro @c_listL (And.intro @c_tupL (And.intro @tupT (And.intro @p_ok (And.intro @x_dst (And.intro @e_in2 (And.intro @e_in3 (And.intro @i_non (And.intro @i_bl (And.intro @i_int (And.intro @i_str (And.intro @i_tup (And.intro @i_lst (And.intro @at0 (And.intro @at1 (And.intro @at2 (And.intro @at3 (And.intro @at4 (And.intro @d_lt1 (And.intro @d_lt0 (And.intro @d_le1 (And.intro @d_le0 (And.intro @d_eq1 (@d_eq0))))))))))))))))))))))))))))))))))))))))))))))))))))))))))))))))))))))))))))))))))))))))))))))))))))))))))))))))))))))))))))))))
def evB := And.intro @k_and (And.intro @k_or (And.intro @ne_if_while (And.intro @ne_if_do (And.intro @ne_if_give (And.intro @ne_if_tell (And.intro @ne_if_get (And.intro @ne_if_let (And.intro @ne_if_hand (And.intro @ne_if_new (And.intro @ne_if_await (And.intro @ne_while_if (And.intro @ne_while_do (And.intro @ne_while_give (And.intro @ne_while_tell (And.intro @ne_while_get (And.intro @ne_while_let (And.intro @ne_while_hand (And.intro @ne_while_new (And.intro @ne_while_await (And.intro @ne_do_if (And.intro @ne_do_while (And.intro @ne_do_give (And.intro @ne_do_tell (And.intro @ne_do_get (And.intro @ne_do_let (And.intro @ne_do_hand (And.intro @ne_do_new (And.intro @ne_do_await (And.intro @ne_give_if (And.intro @ne_give_while (And.intro @ne_give_do (And.intro @ne_give_tell (And.intro @ne_give_get (And.intro @ne_give_let (And.intro @ne_give_hand (And.intro @ne_give_new (And.intro @ne_give_await (And.intro @ne_tell_if (And.intro @ne_tell_while (And.intro @ne_tell_do (And.intro @ne_tell_give (And.intro @ne_tell_get (And.intro @ne_tell_let (And.intro @ne_tell_hand (And.intro @ne_tell_new (And.intro @ne_tell_await (And.intro @ne_get_if (And.intro @ne_get_while (And.intro @ne_get_do (And.intro @ne_get_give (And.intro @ne_get_tell (And.intro @ne_get_let (And.intro @ne_get_hand (And.intro @ne_get_new (And.intro @ne_get_await (And.intro @ne_let_if (And.intro @ne_let_while (And.intro @ne_let_do (And.intro @ne_let_give (And.intro @ne_let_tell (And.intro @ne_let_get (And.intro @ne_let_hand (And.intro @ne_let_new (And.intro @ne_let_await (And.intro @ne_hand_if (And.intro @ne_hand_while (And.intro @ne_hand_do (And.intro @ne_hand_give (And.intro @ne_hand_tell (And.intro @ne_hand_get (And.intro @ne_hand_let (And.intro @ne_hand_new (And.intro @ne_hand_await (And.intro @ne_new_if (And.intro @ne_new_while (And.intro @ne_new_do (And.intro @ne_new_give (And.intro @ne_new_tell (And.intro @ne_new_get (And.intro @ne_new_let (And.intro @ne_new_hand (And.intro @ne_new_await (And.intro @ne_await_if (And.intro @ne_await_while (And.intro @ne_await_do (And.intro @ne_await_give (And.intro @ne_await_tell (And.intro @ne_await_get (And.intro @ne_await_let (And.intro @ne_await_hand (@ne_await_new)))))))))))))))))))))))))))))))))))))))))))))))))))))))))))))))))))))))))))))))))))))))))))
end JM

set_option autoImplicit false
/-! J23: the steps in bundles: what simp unfolds. -/
namespace JM
open PySem L2
theorem u_res1 (env : Env') (s : Sto) : (O.nx env s).res = .ok (.f .non) s := rfl
theorem u_res2 (d : D) (s : Sto) : (O.rt d s).res = .ok d s := rfl
theorem u_res3 (x : Nat) (env : Env') (s : Sto) : (O.exc x env s).res = .exc x s := rfl
theorem u_st (n : Nat) (ds : List D) : startE n ds = ds.map some ++ List.replicate (n - ds.length) none := rfl
theorem u_badd (m : Bool) : (BO.add m).ev = bAdd m := rfl
theorem u_bmul (m : Bool) : (BO.mul m).ev = bMul m := rfl
theorem u_bsub : BO.sub.ev = bSub := rfl
theorem u_bfdiv : BO.fdiv.ev = bFdiv := rfl
theorem u_bmod : BO.mod.ev = bMod := rfl
theorem u_bpow : BO.pow.ev = bPow := rfl
theorem u_ceq : CO.eq.ev = cEq := rfl
theorem u_cne : CO.ne.ev = cNe := rfl
theorem u_clt : CO.lt.ev = cLt := rfl
theorem u_cle : CO.le.ev = cLe := rfl
theorem u_cgt : CO.gt.ev = cGt := rfl
theorem u_cge : CO.ge.ev = cGe := rfl
theorem u_cisin : CO.isin.ev = cIn := rfl
theorem u_cnin : CO.nin.ev = cNin := rfl
theorem u_cis_ : CO.is_.ev = cIs := rfl
theorem u_cnis : CO.nis.ev = cNis := rfl
theorem u_t_bl_int (b : Bool) : tyIs .int (.bl b) = true := rfl
theorem u_t_bl_str (b : Bool) : tyIs .str (.bl b) = false := rfl
theorem u_t_bl_bool (b : Bool) : tyIs .bool (.bl b) = true := rfl
theorem u_t_bl_tuple (b : Bool) : tyIs .tuple (.bl b) = false := rfl
theorem u_t_bl_list (b : Bool) : tyIs .list (.bl b) = false := rfl
theorem u_t_int_int (b : Int) : tyIs .int (.int b) = true := rfl
theorem u_t_int_str (b : Int) : tyIs .str (.int b) = false := rfl
theorem u_t_int_bool (b : Int) : tyIs .bool (.int b) = false := rfl
theorem u_t_int_tuple (b : Int) : tyIs .tuple (.int b) = false := rfl
theorem u_t_int_list (b : Int) : tyIs .list (.int b) = false := rfl
theorem u_t_str_int (b : Str) : tyIs .int (.str b) = false := rfl
theorem u_t_str_str (b : Str) : tyIs .str (.str b) = true := rfl
theorem u_t_str_bool (b : Str) : tyIs .bool (.str b) = false := rfl
theorem u_t_str_tuple (b : Str) : tyIs .tuple (.str b) = false := rfl
theorem u_t_str_list (b : Str) : tyIs .list (.str b) = false := rfl
theorem u_t_tup_int (b : List F) : tyIs .int (.tup b) = false := rfl
theorem u_t_tup_str (b : List F) : tyIs .str (.tup b) = false := rfl
theorem u_t_tup_bool (b : List F) : tyIs .bool (.tup b) = false := rfl
theorem u_t_tup_tuple (b : List F) : tyIs .tuple (.tup b) = true := rfl
theorem u_t_tup_list (b : List F) : tyIs .list (.tup b) = false := rfl
theorem u_t_ktup_int (b : List F) : tyIs .int (.ktup b) = false := rfl
theorem u_t_ktup_str (b : List F) : tyIs .str (.ktup b) = false := rfl
theorem u_t_ktup_bool (b : List F) : tyIs .bool (.ktup b) = false := rfl
theorem u_t_ktup_tuple (b : List F) : tyIs .tuple (.ktup b) = true := rfl
theorem u_t_ktup_list (b : List F) : tyIs .list (.ktup b) = false := rfl
theorem u_t_lst_int (b : List F) : tyIs .int (.lst b) = false := rfl
theorem u_t_lst_str (b : List F) : tyIs .str (.lst b) = false := rfl
theorem u_t_lst_bool (b : List F) : tyIs .bool (.lst b) = false := rfl
theorem u_t_lst_tuple (b : List F) : tyIs .tuple (.lst b) = false := rfl
theorem u_t_lst_list (b : List F) : tyIs .list (.lst b) = true := rfl
theorem u_t_non_int  : tyIs .int .non = false := rfl
theorem u_t_non_str  : tyIs .str .non = false := rfl
theorem u_t_non_bool  : tyIs .bool .non = false := rfl
theorem u_t_non_tuple  : tyIs .tuple .non = false := rfl
theorem u_t_non_list  : tyIs .list .non = false := rfl
theorem u_all0 : allF [] = some [] := rfl
theorem u_all1 (x : F) (r : List D) : allF (.f x :: r) = (allF r).map (x :: ·) := rfl
theorem u_all2 (n : Nat) (r : List D) : allF (.loc n :: r) = none := rfl
theorem u_all3 (l : List D) (r : List D) : allF (.tup l :: r) = none := rfl
theorem u_p1 (i : Nat) (d : D) (s : Sto) (env : Env') : bindP (.one i) d s env = some (env.set i (some d)) := rfl
theorem u_p2 (is : List Nat) (d : D) (s : Sto) (env : Env') : bindP (.tup is) d s env = (match seqT d with | some l => if l.length = is.length then some ((is.zip l).foldl (fun env q => env.set q.1 (some q.2)) env) else none | none => none) := rfl
theorem u_s1 (l : List F) : seqT (.f (.tup l)) = some (l.map .f) := rfl
theorem u_s2 (l : List F) : seqT (.f (.ktup l)) = some (l.map .f) := rfl
theorem u_s3 (l : List D) : seqT (.tup l) = some l := rfl
def evC := And.intro @List.map_cons.{0,0} (And.intro @List.map_nil.{0,0} (And.intro @List.length_cons.{0} (And.intro @List.length_nil.{0} (And.intro @List.cons_append.{0} (And.intro @List.nil_append.{0} (And.intro @List.getElem?_cons_zero.{0} (And.intro @List.getElem?_cons_succ.{0} (And.intro @List.set_cons_zero.{0} (And.intro @List.set_cons_succ.{0} (And.intro @Option.map_some.{0,0} (And.intro @eq_self.{1} (And.intro @if_true.{1} (And.intro @if_false.{1} (And.intro @ite_true.{1} (And.intro @ite_false.{1} (And.intro @and_true (And.intro @true_and (And.intro @or_true (And.intro @true_or (And.intro @and_self (And.intro @or_self (And.intro @ne_eq.{1} (And.intro @not_false_eq_true (And.intro @not_true_eq_false (And.intro @Bool.not_true (And.intro @Bool.not_false (And.intro @decide_true (And.intro @decide_false (And.intro @Bool.and_true (And.intro @Bool.true_and (And.intro @Bool.and_false (And.intro @Bool.false_and (And.intro @List.isEmpty_nil.{0} (And.intro @List.isEmpty_cons.{0} (And.intro @beq_self_eq_true.{0} (And.intro @Bool.or_true (And.intro @Bool.true_or (And.intro @Bool.or_false (And.intro @Bool.false_or (And.intro @Bool.or_self (And.intro @List.zip_cons_cons.{0,0} (And.intro @List.zip_nil_left.{0,0} (And.intro @List.zip_nil_right.{0,0} (And.intro @List.foldl_cons.{0,0} (And.intro @List.foldl_nil.{0,0} (And.intro @Nat.zero_add (And.intro @Int.cast_ofNat_Int (And.intro @Int.lt_irrefl (And.intro @List.replicate_zero.{0} (And.intro @List.replicate_succ.{0} (And.intro @u_res1 (And.intro @u_res2 (And.intro @u_res3 (And.intro @u_st (And.intro @u_badd (And.intro @u_bmul (And.intro @u_bsub (And.intro @u_bfdiv (And.intro @u_bmod (And.intro @u_bpow (And.intro @u_ceq (And.intro @u_cne (And.intro @u_clt (And.intro @u_cle (And.intro @u_cgt (And.intro @u_cge (And.intro @u_cisin (And.intro @u_cnin (And.intro @u_cis_ (And.intro @u_cnis (And.intro @u_t_bl_int (And.intro @u_t_bl_str (And.intro @u_t_bl_bool (And.intro @u_t_bl_tuple (And.intro @u_t_bl_list (And.intro @u_t_int_int (And.intro @u_t_int_str (And.intro @u_t_int_bool (And.intro @u_t_int_tuple (And.intro @u_t_int_list (And.intro @u_t_str_int (And.intro @u_t_str_str (And.intro @u_t_str_bool (And.intro @u_t_str_tuple (And.intro @u_t_str_list (And.intro @u_t_tup_int (And.intro @u_t_tup_str (And.intro @u_t_tup_bool (And.intro @u_t_tup_tuple (And.intro @u_t_tup_list (And.intro @u_t_ktup_int (And.intro @u_t_ktup_str (And.intro @u_t_ktup_bool (And.intro @u_t_ktup_tuple (And.intro @u_t_ktup_list (And.intro @u_t_lst_int (And.intro @u_t_lst_str (And.intro @u_t_lst_bool (And.intro @u_t_lst_tuple (And.intro @u_t_lst_list (And.intro @u_t_non_int (And.intro @u_t_non_str (And.intro @u_t_non_bool (And.intro @u_t_non_tuple (And.intro @u_t_non_list (And.intro @u_all0 (And.intro @u_all1 (And.intro @u_all2 (And.intro @u_all3 (And.intro @u_p1 (And.intro @u_p2 (And.intro @u_s1 (And.intro @u_s2 (@u_s3))))))))))))))))))))))))))))))))))))))))))))))))))))))))))))))))))))))))))))))))))))))))))))))))))))))))))))))))))
end JM

set_option autoImplicit true
namespace K11
open PySem PySem.Spec PyProof.Rows L2 JM
/-! the tables, printed by a program from the law's text -/
def top (i : Nat) : Stmt := PySem.Challenge.pw_joinmill_k11_blocks_of_units.main.body.getD i (.Pass ⟨0, 0, 0, 0⟩)
abbrev i_told_by : Nat := 0
abbrev i_fault_of_takes : Nat := 1
abbrev i_fault_of_words : Nat := 2
abbrev i_fault_of_deeds : Nat := 3
abbrev i_fault_of_word : Nat := 4
abbrev i_fault_of_deed_name : Nat := 5
abbrev i_fault_of_call : Nat := 6
abbrev i_fault_of_expression : Nat := 7
abbrev i_fault_of_split : Nat := 8
abbrev i_fault_of_second : Nat := 9
abbrev i_fault_of_statement : Nat := 10
abbrev i_fault_of_block : Nat := 11
abbrev i_fault_of_blocks : Nat := 12
abbrev i_fault_of : Nat := 13
abbrev i__law_cell_at : Nat := 14
abbrev i__law_mixed : Nat := 15
abbrev i__law_drawn : Nat := 16
abbrev i__law_stem : Nat := 17
abbrev i__law_name : Nat := 18
abbrev i__law_value : Nat := 19
abbrev i__law_expression : Nat := 20
abbrev i__law_short : Nat := 21
abbrev i__law_statement : Nat := 22
abbrev i__law_block : Nat := 23
abbrev i__law_fault_of_word : Nat := 24
abbrev i__law_fault_of_call : Nat := 25
abbrev i__law_fault_of_expression : Nat := 26
abbrev i__law_first : Nat := 27
abbrev i__law_fault_of_new : Nat := 28
abbrev i__law_fault_of_statement : Nat := 29
abbrev i__law_fault_of_block : Nat := 30
abbrev i__law_mess : Nat := 31
abbrev i__law_deed_by : Nat := 32
abbrev i_law : Nat := 33
/-- told_by -/
abbrev s0 : Stmt := top 2
def P0 : List Str := ["face"]
def N0 : List Str := ["face", "told", "name", "count"]
def B_told_by : List S := [.set 1 (.dic false), .ite (.cmp .nis (.v 0) (.k .non)) [.for_ (.one 2) (.seq (.idx (.v 0) (.k (.int 1)))) [.iset (.v 1) (.v 2) (.g "WORD" (.int (-1)))], .for_ (.tup [2, 3]) (.seq (.idx (.v 0) (.k (.int 2)))) [.iset (.v 1) (.v 2) (.v 3)]] [], .ret (.v 1)]
abbrev F0 : Fn := ⟨1, 4, B_told_by⟩
abbrev F_told_by : Fn := F0
def d0 : He.DefD := ⟨("told_by", none), "told_by", "told_by", defArgs s0, defBody s0, defScope s0, [], []⟩
/-- fault_of_takes -/
abbrev s1 : Stmt := top 3
def P1 : List Str := ["unit", "faces", "top"]
def N1 : List Str := ["unit", "faces", "top", "source", "name", "told"]
def B_fault_of_takes : List S := [.for_ (.tup [3, 4]) (.seq (.idx (.v 0) (.k (.int 1)))) [.ite (.or [(.cmp .eq (.v 3) (.idx (.v 0) (.k (.int 0)))), (.cmp .nin (.v 3) (.v 1))]) [.ret (.tup [(.k (.str "noface")), (.v 3)])] [], .set 5 (.call i_told_by [(.idx (.v 1) (.v 3))]), .ite (.cmp .nin (.v 4) (.v 5)) [.ret (.tup [(.k (.str "nottold")), (.v 4)])] [], .ite (.cmp .isin (.v 4) (.v 2)) [.ret (.tup [(.k (.str "twice")), (.v 4)])] [], .iset (.v 2) (.v 4) (.idx (.v 5) (.v 4))], .ret (.k .non)]
abbrev F1 : Fn := ⟨3, 6, B_fault_of_takes⟩
abbrev F_fault_of_takes : Fn := F1
def d1 : He.DefD := ⟨("fault_of_takes", none), "fault_of_takes", "fault_of_takes", defArgs s1, defBody s1, defScope s1, [], []⟩
/-- fault_of_words -/
abbrev s2 : Stmt := top 4
def P2 : List Str := ["unit", "top"]
def N2 : List Str := ["unit", "top", "name"]
def B_fault_of_words : List S := [.for_ (.one 2) (.seq (.idx (.v 0) (.k (.int 2)))) [.ite (.cmp .isin (.v 2) (.v 1)) [.ret (.tup [(.k (.str "twice")), (.v 2)])] [], .iset (.v 1) (.v 2) (.g "WORD" (.int (-1)))], .ret (.k .non)]
abbrev F2 : Fn := ⟨2, 3, B_fault_of_words⟩
abbrev F_fault_of_words : Fn := F2
def d2 : He.DefD := ⟨("fault_of_words", none), "fault_of_words", "fault_of_words", defArgs s2, defBody s2, defScope s2, [], []⟩
/-- fault_of_deeds -/
abbrev s3 : Stmt := top 5
def P3 : List Str := ["unit", "told", "top"]
def N3 : List Str := ["unit", "told", "top", "done", "deed", "name", "again"]
def B_fault_of_deeds : List S := [.set 3 (.dic false), .for_ (.one 4) (.seq (.idx (.v 0) (.k (.int 3)))) [.set 5 (.idx (.v 4) (.k (.int 0))), .set 6 (.and [(.cmp .isin (.v 5) (.v 1)), (.cmp .ne (.idx (.v 1) (.v 5)) (.g "WORD" (.int (-1)))), (.cmp .nin (.v 5) (.v 3))]), .ite (.and [(.cmp .isin (.v 5) (.v 2)), (.not (.v 6))]) [.ret (.tup [(.k (.str "twice")), (.v 5)])] [], .ite (.and [(.v 6), (.cmp .ne (.idx (.v 1) (.v 5)) (.bi .len [(.idx (.v 4) (.k (.int 1)))]))]) [.ret (.tup [(.k (.str "count")), (.v 5)])] [], .iset (.v 3) (.v 5) (.k (.bl true)), .iset (.v 2) (.v 5) (.bi .len [(.idx (.v 4) (.k (.int 1)))])], .for_ (.one 5) (.seq (.v 1)) [.ite (.and [(.cmp .ne (.idx (.v 1) (.v 5)) (.g "WORD" (.int (-1)))), (.cmp .nin (.v 5) (.v 3))]) [.ret (.tup [(.k (.str "lacks")), (.v 5)])] []], .ret (.k .non)]
abbrev F3 : Fn := ⟨3, 7, B_fault_of_deeds⟩
abbrev F_fault_of_deeds : Fn := F3
def d3 : He.DefD := ⟨("fault_of_deeds", none), "fault_of_deeds", "fault_of_deeds", defArgs s3, defBody s3, defScope s3, [], []⟩
/-- fault_of_word -/
abbrev s4 : Stmt := top 6
def P4 : List Str := ["name", "top", "inner"]
def N4 : List Str := ["name", "top", "inner"]
def B_fault_of_word : List S := [.ite (.cmp .isin (.v 0) (.v 2)) [.ret (.k .non)] [], .ite (.cmp .nin (.v 0) (.v 1)) [.ret (.tup [(.k (.str "unknown")), (.v 0)])] [], .ite (.cmp .ne (.idx (.v 1) (.v 0)) (.g "WORD" (.int (-1)))) [.ret (.tup [(.k (.str "sort")), (.v 0)])] [], .ret (.k .non)]
abbrev F4 : Fn := ⟨3, 3, B_fault_of_word⟩
abbrev F_fault_of_word : Fn := F4
def d4 : He.DefD := ⟨("fault_of_word", none), "fault_of_word", "fault_of_word", defArgs s4, defBody s4, defScope s4, [], []⟩
/-- fault_of_deed_name -/
abbrev s5 : Stmt := top 7
def P5 : List Str := ["name", "top", "inner"]
def N5 : List Str := ["name", "top", "inner"]
def B_fault_of_deed_name : List S := [.ite (.cmp .isin (.v 0) (.v 2)) [.ret (.tup [(.k (.str "sort")), (.v 0)])] [], .ite (.cmp .nin (.v 0) (.v 1)) [.ret (.tup [(.k (.str "unknown")), (.v 0)])] [], .ite (.cmp .eq (.idx (.v 1) (.v 0)) (.g "WORD" (.int (-1)))) [.ret (.tup [(.k (.str "sort")), (.v 0)])] [], .ret (.k .non)]
abbrev F5 : Fn := ⟨3, 3, B_fault_of_deed_name⟩
abbrev F_fault_of_deed_name : Fn := F5
def d5 : He.DefD := ⟨("fault_of_deed_name", none), "fault_of_deed_name", "fault_of_deed_name", defArgs s5, defBody s5, defScope s5, [], []⟩
/-- fault_of_call -/
abbrev s6 : Stmt := top 8
def P6 : List Str := ["name", "parts", "top", "inner"]
def N6 : List Str := ["name", "parts", "top", "inner", "fault", "part"]
def B_fault_of_call : List S := [.set 4 (.calli i_fault_of_deed_name [(.v 0), (.v 2), (.v 3)]), .for_ (.one 5) (.seq (.v 1)) [.ite (.cmp .is_ (.v 4) (.k .non)) [.set 4 (.calli i_fault_of_expression [(.v 5), (.v 2), (.v 3)])] []], .ite (.and [(.cmp .is_ (.v 4) (.k .non)), (.cmp .ne (.bi .len [(.v 1)]) (.idx (.v 2) (.v 0)))]) [.ret (.tup [(.k (.str "count")), (.v 0)])] [], .ret (.v 4)]
abbrev F6 : Fn := ⟨4, 6, B_fault_of_call⟩
abbrev F_fault_of_call : Fn := F6
def d6 : He.DefD := ⟨("fault_of_call", none), "fault_of_call", "fault_of_call", defArgs s6, defBody s6, defScope s6, [], []⟩
/-- fault_of_expression -/
abbrev s7 : Stmt := top 9
def P7 : List Str := ["thing", "top", "inner"]
def N7 : List Str := ["thing", "top", "inner", "fault"]
def B_fault_of_expression : List S := [.ite (.cmp .eq (.idx (.v 0) (.k (.int 0))) (.k (.str "number"))) [.ret (.k .non)] [], .ite (.cmp .eq (.idx (.v 0) (.k (.int 0))) (.k (.str "name"))) [.ret (.calli i_fault_of_word [(.idx (.v 0) (.k (.int 1))), (.v 1), (.v 2)])] [], .ite (.cmp .eq (.idx (.v 0) (.k (.int 0))) (.k (.str "call"))) [.ret (.calli i_fault_of_call [(.idx (.v 0) (.k (.int 1))), (.idx (.v 0) (.k (.int 2))), (.v 1), (.v 2)])] [], .set 3 (.calli i_fault_of_expression [(.idx (.v 0) (.k (.int 1))), (.v 1), (.v 2)]), .ite (.cmp .is_ (.v 3) (.k .non)) [.set 3 (.calli i_fault_of_expression [(.idx (.v 0) (.k (.int 2))), (.v 1), (.v 2)])] [], .ret (.v 3)]
abbrev F7 : Fn := ⟨3, 4, B_fault_of_expression⟩
abbrev F_fault_of_expression : Fn := F7
def d7 : He.DefD := ⟨("fault_of_expression", none), "fault_of_expression", "fault_of_expression", defArgs s7, defBody s7, defScope s7, [], []⟩
/-- fault_of_split -/
abbrev s8 : Stmt := top 10
def P8 : List Str := ["thing", "top", "inner"]
def N8 : List Str := ["thing", "top", "inner", "fault", "block"]
def B_fault_of_split : List S := [.set 3 (.calli i_fault_of_expression [(.idx (.v 0) (.k (.int 1))), (.v 1), (.v 2)]), .for_ (.one 4) (.seq (.sl false (.v 0) (some (.k (.int 2))) none)) [.ite (.cmp .is_ (.v 3) (.k .non)) [.set 3 (.calli i_fault_of_block [(.v 4), (.v 1), (.v 2)])] []], .ret (.v 3)]
abbrev F8 : Fn := ⟨3, 5, B_fault_of_split⟩
abbrev F_fault_of_split : Fn := F8
def d8 : He.DefD := ⟨("fault_of_split", none), "fault_of_split", "fault_of_split", defArgs s8, defBody s8, defScope s8, [], []⟩
/-- fault_of_second -/
abbrev s9 : Stmt := top 11
def P9 : List Str := ["thing", "top", "inner"]
def N9 : List Str := ["thing", "top", "inner", "fault"]
def B_fault_of_second : List S := [.ite (.cmp .eq (.idx (.v 0) (.k (.int 0))) (.k (.str "await"))) [.ret (.calli i_fault_of_word [(.idx (.v 0) (.k (.int 2))), (.v 1), (.v 2)])] [], .ite (.cmp .ne (.idx (.v 0) (.k (.int 0))) (.k (.str "new"))) [.ret (.calli i_fault_of_expression [(.idx (.v 0) (.k (.int 2))), (.v 1), (.v 2)])] [], .set 3 (.calli i_fault_of_deed_name [(.idx (.v 0) (.k (.int 2))), (.v 1), (.v 2)]), .ite (.and [(.cmp .is_ (.v 3) (.k .non)), (.cmp .ne (.idx (.v 1) (.idx (.v 0) (.k (.int 2)))) (.k (.int 0)))]) [.ret (.tup [(.k (.str "count")), (.idx (.v 0) (.k (.int 2)))])] [], .ret (.v 3)]
abbrev F9 : Fn := ⟨3, 4, B_fault_of_second⟩
abbrev F_fault_of_second : Fn := F9
def d9 : He.DefD := ⟨("fault_of_second", none), "fault_of_second", "fault_of_second", defArgs s9, defBody s9, defScope s9, [], []⟩
/-- fault_of_statement -/
abbrev s10 : Stmt := top 12
def P10 : List Str := ["thing", "top", "inner"]
def N10 : List Str := ["thing", "top", "inner", "fault"]
def B_fault_of_statement : List S := [.ite (.cmp .isin (.idx (.v 0) (.k (.int 0))) (.tup [(.k (.str "if")), (.k (.str "while"))])) [.ret (.calli i_fault_of_split [(.v 0), (.v 1), (.v 2)])] [], .ite (.cmp .eq (.idx (.v 0) (.k (.int 0))) (.k (.str "do"))) [.ret (.calli i_fault_of_call [(.idx (.v 0) (.k (.int 1))), (.idx (.v 0) (.k (.int 2))), (.v 1), (.v 2)])] [], .ite (.cmp .isin (.idx (.v 0) (.k (.int 0))) (.tup [(.k (.str "give")), (.k (.str "tell"))])) [.ret (.calli i_fault_of_expression [(.idx (.v 0) (.k (.int 1))), (.v 1), (.v 2)])] [], .set 3 (.calli i_fault_of_word [(.idx (.v 0) (.k (.int 1))), (.v 1), (.v 2)]), .ite (.and [(.cmp .is_ (.v 3) (.k .non)), (.cmp .ne (.idx (.v 0) (.k (.int 0))) (.k (.str "get")))]) [.ret (.calli i_fault_of_second [(.v 0), (.v 1), (.v 2)])] [], .ret (.v 3)]
abbrev F10 : Fn := ⟨3, 4, B_fault_of_statement⟩
abbrev F_fault_of_statement : Fn := F10
def d10 : He.DefD := ⟨("fault_of_statement", none), "fault_of_statement", "fault_of_statement", defArgs s10, defBody s10, defScope s10, [], []⟩
/-- fault_of_block -/
abbrev s11 : Stmt := top 13
def P11 : List Str := ["block", "top", "inner"]
def N11 : List Str := ["block", "top", "inner", "thing", "fault"]
def B_fault_of_block : List S := [.for_ (.one 3) (.seq (.v 0)) [.set 4 (.calli i_fault_of_statement [(.v 3), (.v 1), (.v 2)]), .ite (.cmp .nis (.v 4) (.k .non)) [.ret (.v 4)] []], .ret (.k .non)]
abbrev F11 : Fn := ⟨3, 5, B_fault_of_block⟩
abbrev F_fault_of_block : Fn := F11
def d11 : He.DefD := ⟨("fault_of_block", none), "fault_of_block", "fault_of_block", defArgs s11, defBody s11, defScope s11, [], []⟩
/-- fault_of_blocks -/
abbrev s12 : Stmt := top 14
def P12 : List Str := ["unit", "top"]
def N12 : List Str := ["unit", "top", "deed", "inner", "name", "fault"]
def B_fault_of_blocks : List S := [.for_ (.one 2) (.seq (.idx (.v 0) (.k (.int 3)))) [.set 3 (.dic false), .for_ (.one 4) (.seq (.bin (.add false) (.idx (.v 2) (.k (.int 1))) (.idx (.v 2) (.k (.int 2))))) [.iset (.v 3) (.v 4) (.k (.bl true))], .set 5 (.calli i_fault_of_block [(.idx (.v 2) (.k (.int 3))), (.v 1), (.v 3)]), .ite (.cmp .nis (.v 5) (.k .non)) [.ret (.v 5)] []], .ret (.calli i_fault_of_block [(.idx (.v 0) (.k (.int 4))), (.v 1), (.dic false)])]
abbrev F12 : Fn := ⟨2, 6, B_fault_of_blocks⟩
abbrev F_fault_of_blocks : Fn := F12
def d12 : He.DefD := ⟨("fault_of_blocks", none), "fault_of_blocks", "fault_of_blocks", defArgs s12, defBody s12, defScope s12, [], []⟩
/-- fault_of -/
abbrev s13 : Stmt := top 15
def P13 : List Str := ["unit", "faces", "face"]
def N13 : List Str := ["unit", "faces", "face", "told", "top", "fault"]
def B_fault_of : List S := [.set 3 (.call i_told_by [(.v 2)]), .set 4 (.bi .dict [(.v 3)]), .set 5 (.calli i_fault_of_takes [(.v 0), (.v 1), (.v 4)]), .ite (.cmp .is_ (.v 5) (.k .non)) [.set 5 (.calli i_fault_of_words [(.v 0), (.v 4)])] [], .ite (.cmp .is_ (.v 5) (.k .non)) [.set 5 (.calli i_fault_of_deeds [(.v 0), (.v 3), (.v 4)])] [], .ite (.cmp .is_ (.v 5) (.k .non)) [.set 5 (.calli i_fault_of_blocks [(.v 0), (.v 4)])] [], .ret (.v 5)]
abbrev F13 : Fn := ⟨3, 6, B_fault_of⟩
abbrev F_fault_of : Fn := F13
def d13 : He.DefD := ⟨("fault_of", none), "fault_of", "fault_of", defArgs s13, defBody s13, defScope s13, [], []⟩
/-- _law_cell_at -/
abbrev s14 : Stmt := top 17
def P14 : List Str := ["_law_script", "_law_k"]
def N14 : List Str := ["_law_script", "_law_k"]
def B__law_cell_at : List S := [.ite (.cmp .lt (.v 1) (.bi .len [(.v 0)])) [.ret (.idx (.v 0) (.v 1))] [], .ret (.k (.int 0))]
abbrev F14 : Fn := ⟨2, 2, B__law_cell_at⟩
abbrev F__law_cell_at : Fn := F14
def d14 : He.DefD := ⟨("_law_cell_at", none), "_law_cell_at", "_law_cell_at", defArgs s14, defBody s14, defScope s14, [], []⟩
/-- _law_mixed -/
abbrev s15 : Stmt := top 18
def P15 : List Str := ["_law_script", "_law_k"]
def N15 : List Str := ["_law_script", "_law_k", "_law_drawn_here"]
def B__law_mixed : List S := [.set 2 (.bin .mod (.bin (.mul false) (.bin (.add false) (.bin (.add false) (.call i__law_cell_at [(.v 0), (.v 1)]) (.bin (.mul false) (.k (.int 7919)) (.v 1))) (.k (.int 1))) (.k (.int 48271))) (.k (.int 2147483647))), .ret (.bin .mod (.bin (.add false) (.bin (.add false) (.bin (.mul false) (.v 2) (.v 2)) (.bin (.mul false) (.k (.int 7)) (.v 2))) (.v 1)) (.k (.int 2147483629)))]
abbrev F15 : Fn := ⟨2, 3, B__law_mixed⟩
abbrev F__law_mixed : Fn := F15
def d15 : He.DefD := ⟨("_law_mixed", none), "_law_mixed", "_law_mixed", defArgs s15, defBody s15, defScope s15, [], []⟩
/-- _law_drawn -/
abbrev s16 : Stmt := top 19
def P16 : List Str := ["_law_number", "_law_k"]
def N16 : List Str := ["_law_number", "_law_k", "_law_drawn_here"]
def B__law_drawn : List S := [.set 2 (.bin .mod (.bin (.mul false) (.bin (.add false) (.bin (.add false) (.v 0) (.bin (.mul false) (.k (.int 104729)) (.v 1))) (.k (.int 17))) (.k (.int 69621))) (.k (.int 2147483647))), .ret (.bin .mod (.bin (.add false) (.bin (.add false) (.bin (.mul false) (.v 2) (.v 2)) (.bin (.mul false) (.k (.int 3)) (.v 2))) (.v 1)) (.k (.int 2147483629)))]
abbrev F16 : Fn := ⟨2, 3, B__law_drawn⟩
abbrev F__law_drawn : Fn := F16
def d16 : He.DefD := ⟨("_law_drawn", none), "_law_drawn", "_law_drawn", defArgs s16, defBody s16, defScope s16, [], []⟩
/-- _law_stem -/
abbrev s17 : Stmt := top 20
def P17 : List Str := ["_law_number"]
def N17 : List Str := ["_law_number", "_law_letters", "_law_found", "_law_k"]
def B__law_stem : List S := [.set 1 (.k (.str "abcdefghijklmnopqrstuvwxyz")), .set 2 (.k (.str "")), .for_ (.one 3) (.rng1 (.bin .mod (.v 0) (.k (.int 7)))) [.set 2 (.bin (.add false) (.v 2) (.idx (.v 1) (.bin .mod (.bin .fdiv (.v 0) (.bin (.add false) (.k (.int 7)) (.bin (.mul false) (.k (.int 26)) (.v 3)))) (.k (.int 26)))))], .ret (.v 2)]
abbrev F17 : Fn := ⟨1, 4, B__law_stem⟩
abbrev F__law_stem : Fn := F17
def d17 : He.DefD := ⟨("_law_stem", none), "_law_stem", "_law_stem", defArgs s17, defBody s17, defScope s17, [], []⟩
/-- _law_name -/
abbrev s18 : Stmt := top 21
def P18 : List Str := ["_law_number", "_law_k"]
def N18 : List Str := ["_law_number", "_law_k", "_law_letters"]
def B__law_name : List S := [.set 2 (.k (.str "abcdefghijklmnopqrstuvwxyz")), .ret (.bin (.add false) (.bin (.add false) (.call i__law_stem [(.v 0)]) (.idx (.v 2) (.bin .mod (.v 1) (.k (.int 26))))) (.bin (.mul false) (.k (.str "z")) (.bi .int [(.cmp .gt (.bin .mod (.v 0) (.k (.int 7))) (.k (.int 0)))])))]
abbrev F18 : Fn := ⟨2, 3, B__law_name⟩
abbrev F__law_name : Fn := F18
def d18 : He.DefD := ⟨("_law_name", none), "_law_name", "_law_name", defArgs s18, defBody s18, defScope s18, [], []⟩
/-- _law_value -/
abbrev s19 : Stmt := top 22
def P19 : List Str := ["_law_number"]
def N19 : List Str := ["_law_number"]
def B__law_value : List S := [.ite (.cmp .eq (.bin .mod (.v 0) (.k (.int 9))) (.k (.int 4))) [.ret (.bin .sub (.bin .mod (.bin .fdiv (.v 0) (.k (.int 9))) (.k (.int 1999999))) (.k (.int 999999)))] [], .ret (.bin .sub (.bin .mod (.bin .fdiv (.v 0) (.k (.int 9))) (.k (.int 14))) (.k (.int 4)))]
abbrev F19 : Fn := ⟨1, 1, B__law_value⟩
abbrev F__law_value : Fn := F19
def d19 : He.DefD := ⟨("_law_value", none), "_law_value", "_law_value", defArgs s19, defBody s19, defScope s19, [], []⟩
/-- _law_expression -/
abbrev s20 : Stmt := top 23
def P20 : List Str := ["_law_number", "_law_names", "_law_deeds", "_law_deep"]
def N20 : List Str := ["_law_number", "_law_names", "_law_deeds", "_law_deep", "_law_kind", "_law_name_here", "_law_count", "_law_parts", "_law_k", "_law_left", "_law_right"]
def B__law_expression : List S := [.set 4 (.bin .mod (.v 0) (.k (.int 9))), .ite (.or [(.cmp .eq (.v 3) (.k (.int 0))), (.cmp .lt (.v 4) (.k (.int 2)))]) [.ret (.tup [(.k (.str "number")), (.call i__law_value [(.bin .fdiv (.v 0) (.k (.int 9)))])])] [], .ite (.cmp .lt (.v 4) (.k (.int 5))) [.ret (.tup [(.k (.str "name")), (.idx (.v 1) (.bin .mod (.bin .fdiv (.v 0) (.k (.int 9))) (.bi .len [(.v 1)])))])] [], .ite (.and [(.cmp .eq (.v 4) (.k (.int 5))), (.cmp .gt (.bi .len [(.v 2)]) (.k (.int 0)))]) [.unp [5, 6] (.idx (.v 2) (.bin .mod (.bin .fdiv (.v 0) (.k (.int 9))) (.bi .len [(.v 2)]))), .set 7 (.lc false (.rng1 (.v 6)) (.one 8) none (.call i__law_expression [(.call i__law_drawn [(.v 0), (.v 8)]), (.v 1), (.v 2), (.bin .sub (.v 3) (.k (.int 1)))])), .ret (.tup [(.k (.str "call")), (.v 5), (.bi .tuple [(.v 7)])])] [], .set 9 (.call i__law_expression [(.call i__law_drawn [(.v 0), (.k (.int 5))]), (.v 1), (.v 2), (.bin .sub (.v 3) (.k (.int 1)))]), .set 10 (.call i__law_expression [(.call i__law_drawn [(.v 0), (.k (.int 6))]), (.v 1), (.v 2), (.bin .sub (.v 3) (.k (.int 1)))]), .ret (.tup [(.idx (.k (.str "+-*<=")) (.bin .mod (.bin .fdiv (.v 0) (.k (.int 9))) (.k (.int 5)))), (.v 9), (.v 10)])]
abbrev F20 : Fn := ⟨4, 11, B__law_expression⟩
abbrev F__law_expression : Fn := F20
def d20 : He.DefD := ⟨("_law_expression", none), "_law_expression", "_law_expression", defArgs s20, defBody s20, defScope s20, [], []⟩
/-- _law_short -/
abbrev s21 : Stmt := top 24
def P21 : List Str := ["_law_number", "_law_names", "_law_deeds", "_law_plain"]
def N21 : List Str := ["_law_number", "_law_names", "_law_deeds", "_law_plain", "_law_name_here", "_law_drawn_here", "_law_kind", "_law_called", "_law_count", "_law_parts", "_law_k"]
def B__law_short : List S := [.set 4 (.idx (.v 1) (.bin .mod (.bin .fdiv (.v 0) (.k (.int 16))) (.bi .len [(.v 1)]))), .set 5 (.call i__law_expression [(.call i__law_drawn [(.v 0), (.k (.int 1))]), (.v 1), (.v 2), (.k (.int 2))]), .set 6 (.bin .mod (.v 0) (.k (.int 16))), .ite (.cmp .lt (.v 6) (.k (.int 4))) [.ret (.tup [(.k (.str "let")), (.v 4), (.v 5)])] [], .ite (.cmp .lt (.v 6) (.k (.int 6))) [.ret (.tup [(.k (.str "tell")), (.v 5)])] [], .ite (.cmp .eq (.v 6) (.k (.int 6))) [.ret (.tup [(.k (.str "get")), (.v 4)])] [], .ite (.cmp .eq (.v 6) (.k (.int 7))) [.ret (.tup [(.k (.str "give")), (.v 5)])] [], .ite (.and [(.cmp .eq (.v 6) (.k (.int 8))), (.cmp .gt (.bi .len [(.v 3)]) (.k (.int 0)))]) [.ret (.tup [(.k (.str "new")), (.v 4), (.idx (.v 3) (.bin .mod (.bin .fdiv (.v 0) (.k (.int 256))) (.bi .len [(.v 3)])))])] [], .ite (.cmp .eq (.v 6) (.k (.int 9))) [.ret (.tup [(.k (.str "hand")), (.v 4), (.v 5)])] [], .ite (.cmp .eq (.v 6) (.k (.int 10))) [.ret (.tup [(.k (.str "hand")), (.v 4), (.tup [(.k (.str "number")), (.bin (.add false) (.k (.int 1)) (.bin .mod (.bin .fdiv (.v 0) (.k (.int 256))) (.k (.int 4))))])])] [], .ite (.cmp .eq (.v 6) (.k (.int 11))) [.ret (.tup [(.k (.str "await")), (.v 4), (.idx (.v 1) (.bin .mod (.bin .fdiv (.v 0) (.k (.int 256))) (.bi .len [(.v 1)])))])] [], .ite (.cmp .gt (.bi .len [(.v 2)]) (.k (.int 0))) [.unp [7, 8] (.idx (.v 2) (.bin .mod (.bin .fdiv (.v 0) (.k (.int 256))) (.bi .len [(.v 2)]))), .set 9 (.lc false (.rng1 (.v 8)) (.one 10) none (.call i__law_expression [(.call i__law_drawn [(.v 0), (.bin (.add false) (.v 10) (.k (.int 2)))]), (.v 1), (.v 2), (.k (.int 1))])), .ret (.tup [(.k (.str "do")), (.v 7), (.bi .tuple [(.v 9)])])] [], .ret (.tup [(.k (.str "tell")), (.v 5)])]
abbrev F21 : Fn := ⟨4, 11, B__law_short⟩
abbrev F__law_short : Fn := F21
def d21 : He.DefD := ⟨("_law_short", none), "_law_short", "_law_short", defArgs s21, defBody s21, defScope s21, [], []⟩
/-- _law_statement -/
abbrev s22 : Stmt := top 25
def P22 : List Str := ["_law_number", "_law_names", "_law_deeds", "_law_plain", "_law_deep"]
def N22 : List Str := ["_law_number", "_law_names", "_law_deeds", "_law_plain", "_law_deep", "_law_kind", "_law_asked", "_law_one", "_law_name_here"]
def B__law_statement : List S := [.set 5 (.bin .mod (.v 0) (.k (.int 12))), .ite (.or [(.cmp .eq (.v 4) (.k (.int 0))), (.cmp .lt (.v 5) (.k (.int 9)))]) [.ret (.call i__law_short [(.bin .fdiv (.v 0) (.k (.int 12))), (.v 1), (.v 2), (.v 3)])] [], .set 6 (.call i__law_expression [(.call i__law_drawn [(.v 0), (.k (.int 1))]), (.v 1), (.v 2), (.k (.int 2))]), .set 7 (.call i__law_block [(.call i__law_drawn [(.v 0), (.k (.int 2))]), (.bin .mod (.bin .fdiv (.v 0) (.k (.int 12))) (.k (.int 4))), (.v 1), (.v 2), (.v 3), (.bin .sub (.v 4) (.k (.int 1)))]), .ite (.cmp .eq (.v 5) (.k (.int 9))) [.ret (.tup [(.k (.str "while")), (.v 6), (.v 7)])] [], .ite (.cmp .eq (.v 5) (.k (.int 10))) [.set 8 (.idx (.v 1) (.bin .mod (.bin .fdiv (.v 0) (.k (.int 48))) (.bi .len [(.v 1)]))), .set 6 (.tup [(.k (.str "<")), (.tup [(.k (.str "name")), (.v 8)]), (.tup [(.k (.str "number")), (.bin .mod (.bin .fdiv (.v 0) (.k (.int 960))) (.k (.int 9)))])]), .ret (.tup [(.k (.str "while")), (.v 6), (.bin (.add false) (.v 7) (.tup [(.tup [(.k (.str "let")), (.v 8), (.tup [(.k (.str "+")), (.tup [(.k (.str "name")), (.v 8)]), (.tup [(.k (.str "number")), (.k (.int 1))])])])]))])] [], .ret (.tup [(.k (.str "if")), (.v 6), (.v 7), (.call i__law_block [(.call i__law_drawn [(.v 0), (.k (.int 3))]), (.bin .mod (.bin .fdiv (.v 0) (.k (.int 48))) (.k (.int 3))), (.v 1), (.v 2), (.v 3), (.bin .sub (.v 4) (.k (.int 1)))])])]
abbrev F22 : Fn := ⟨5, 9, B__law_statement⟩
abbrev F__law_statement : Fn := F22
def d22 : He.DefD := ⟨("_law_statement", none), "_law_statement", "_law_statement", defArgs s22, defBody s22, defScope s22, [], []⟩
/-- _law_block -/
abbrev s23 : Stmt := top 26
def P23 : List Str := ["_law_number", "_law_size", "_law_names", "_law_deeds", "_law_plain", "_law_deep"]
def N23 : List Str := ["_law_number", "_law_size", "_law_names", "_law_deeds", "_law_plain", "_law_deep", "_law_parts", "_law_k"]
def B__law_block : List S := [.set 6 (.lc false (.rng1 (.v 1)) (.one 7) none (.call i__law_statement [(.call i__law_drawn [(.v 0), (.v 7)]), (.v 2), (.v 3), (.v 4), (.v 5)])), .ret (.bi .tuple [(.v 6)])]
abbrev F23 : Fn := ⟨6, 8, B__law_block⟩
abbrev F__law_block : Fn := F23
def d23 : He.DefD := ⟨("_law_block", none), "_law_block", "_law_block", defArgs s23, defBody s23, defScope s23, [], []⟩
/-- _law_fault_of_word -/
abbrev s24 : Stmt := top 27
def P24 : List Str := ["_law_name_here", "_law_words", "_law_deeds"]
def N24 : List Str := ["_law_name_here", "_law_words", "_law_deeds", "_law_deed", "_law_count"]
def B__law_fault_of_word : List S := [.ite (.cmp .isin (.v 0) (.v 1)) [.ret (.k .non)] [], .ite (.cmp .eq (.lc false (.seq (.v 2)) (.tup [3, 4]) (some (.cmp .eq (.v 3) (.v 0))) (.v 3)) (.lst false [])) [.ret (.tup [(.k (.str "unknown")), (.v 0)])] [], .ret (.tup [(.k (.str "sort")), (.v 0)])]
abbrev F24 : Fn := ⟨3, 5, B__law_fault_of_word⟩
abbrev F__law_fault_of_word : Fn := F24
def d24 : He.DefD := ⟨("_law_fault_of_word", none), "_law_fault_of_word", "_law_fault_of_word", defArgs s24, defBody s24, defScope s24, [], []⟩
/-- _law_fault_of_call -/
abbrev s25 : Stmt := top 28
def P25 : List Str := ["_law_name_here", "_law_parts", "_law_words", "_law_deeds"]
def N25 : List Str := ["_law_name_here", "_law_parts", "_law_words", "_law_deeds", "_law_counts", "_law_deed", "_law_count", "_law_part", "_law_fault"]
def B__law_fault_of_call : List S := [.set 4 (.lc false (.seq (.v 3)) (.tup [5, 6]) (some (.cmp .eq (.v 5) (.v 0))) (.v 6)), .ite (.cmp .isin (.v 0) (.v 2)) [.ret (.tup [(.k (.str "sort")), (.v 0)])] [], .ite (.cmp .eq (.v 4) (.lst false [])) [.ret (.tup [(.k (.str "unknown")), (.v 0)])] [], .for_ (.one 7) (.seq (.v 1)) [.set 8 (.call i__law_fault_of_expression [(.v 7), (.v 2), (.v 3)]), .ite (.cmp .nis (.v 8) (.k .non)) [.ret (.v 8)] []], .ite (.cmp .ne (.idx (.v 4) (.k (.int 0))) (.bi .len [(.v 1)])) [.ret (.tup [(.k (.str "count")), (.v 0)])] [], .ret (.k .non)]
abbrev F25 : Fn := ⟨4, 9, B__law_fault_of_call⟩
abbrev F__law_fault_of_call : Fn := F25
def d25 : He.DefD := ⟨("_law_fault_of_call", none), "_law_fault_of_call", "_law_fault_of_call", defArgs s25, defBody s25, defScope s25, [], []⟩
/-- _law_fault_of_expression -/
abbrev s26 : Stmt := top 29
def P26 : List Str := ["_law_thing", "_law_words", "_law_deeds"]
def N26 : List Str := ["_law_thing", "_law_words", "_law_deeds", "_law_part"]
def B__law_fault_of_expression : List S := [.ite (.cmp .eq (.idx (.v 0) (.k (.int 0))) (.k (.str "number"))) [.ret (.k .non)] [], .ite (.cmp .eq (.idx (.v 0) (.k (.int 0))) (.k (.str "name"))) [.ret (.call i__law_fault_of_word [(.idx (.v 0) (.k (.int 1))), (.v 1), (.v 2)])] [], .ite (.cmp .eq (.idx (.v 0) (.k (.int 0))) (.k (.str "call"))) [.ret (.call i__law_fault_of_call [(.idx (.v 0) (.k (.int 1))), (.idx (.v 0) (.k (.int 2))), (.v 1), (.v 2)])] [], .ret (.call i__law_first [(.lc false (.seq (.sl false (.v 0) (some (.k (.int 1))) none)) (.one 3) none (.call i__law_fault_of_expression [(.v 3), (.v 1), (.v 2)]))])]
abbrev F26 : Fn := ⟨3, 4, B__law_fault_of_expression⟩
abbrev F__law_fault_of_expression : Fn := F26
def d26 : He.DefD := ⟨("_law_fault_of_expression", none), "_law_fault_of_expression", "_law_fault_of_expression", defArgs s26, defBody s26, defScope s26, [], []⟩
/-- _law_first -/
abbrev s27 : Stmt := top 30
def P27 : List Str := ["_law_faults"]
def N27 : List Str := ["_law_faults", "_law_fault"]
def B__law_first : List S := [.for_ (.one 1) (.seq (.v 0)) [.ite (.cmp .nis (.v 1) (.k .non)) [.ret (.v 1)] []], .ret (.k .non)]
abbrev F27 : Fn := ⟨1, 2, B__law_first⟩
abbrev F__law_first : Fn := F27
def d27 : He.DefD := ⟨("_law_first", none), "_law_first", "_law_first", defArgs s27, defBody s27, defScope s27, [], []⟩
/-- _law_fault_of_new -/
abbrev s28 : Stmt := top 31
def P28 : List Str := ["_law_thing", "_law_words", "_law_deeds"]
def N28 : List Str := ["_law_thing", "_law_words", "_law_deeds", "_law_fault"]
def B__law_fault_of_new : List S := [.set 3 (.call i__law_fault_of_call [(.idx (.v 0) (.k (.int 2))), (.tup []), (.v 1), (.v 2)]), .ret (.call i__law_first [(.lst false [(.call i__law_fault_of_word [(.idx (.v 0) (.k (.int 1))), (.v 1), (.v 2)]), (.v 3)])])]
abbrev F28 : Fn := ⟨3, 4, B__law_fault_of_new⟩
abbrev F__law_fault_of_new : Fn := F28
def d28 : He.DefD := ⟨("_law_fault_of_new", none), "_law_fault_of_new", "_law_fault_of_new", defArgs s28, defBody s28, defScope s28, [], []⟩
/-- _law_fault_of_statement -/
abbrev s29 : Stmt := top 32
def P29 : List Str := ["_law_thing", "_law_words", "_law_deeds"]
def N29 : List Str := ["_law_thing", "_law_words", "_law_deeds", "_law_word", "_law_faults", "_law_block_here", "_law_fault"]
def B__law_fault_of_statement : List S := [.set 3 (.idx (.v 0) (.k (.int 0))), .ite (.cmp .eq (.v 3) (.k (.str "new"))) [.ret (.call i__law_fault_of_new [(.v 0), (.v 1), (.v 2)])] [], .ite (.cmp .eq (.v 3) (.k (.str "do"))) [.ret (.call i__law_fault_of_call [(.idx (.v 0) (.k (.int 1))), (.idx (.v 0) (.k (.int 2))), (.v 1), (.v 2)])] [], .ite (.cmp .isin (.v 3) (.tup [(.k (.str "give")), (.k (.str "tell"))])) [.ret (.call i__law_fault_of_expression [(.idx (.v 0) (.k (.int 1))), (.v 1), (.v 2)])] [], .ite (.cmp .isin (.v 3) (.tup [(.k (.str "if")), (.k (.str "while"))])) [.set 4 (.lc false (.seq (.sl false (.v 0) (some (.k (.int 2))) none)) (.one 5) none (.call i__law_fault_of_block [(.v 5), (.v 1), (.v 2)])), .ret (.call i__law_first [(.bin (.add false) (.lst false [(.call i__law_fault_of_expression [(.idx (.v 0) (.k (.int 1))), (.v 1), (.v 2)])]) (.v 4))])] [], .set 6 (.call i__law_fault_of_word [(.idx (.v 0) (.k (.int 1))), (.v 1), (.v 2)]), .ite (.or [(.cmp .nis (.v 6) (.k .non)), (.cmp .eq (.v 3) (.k (.str "get")))]) [.ret (.v 6)] [], .ite (.cmp .eq (.v 3) (.k (.str "await"))) [.ret (.call i__law_fault_of_word [(.idx (.v 0) (.k (.int 2))), (.v 1), (.v 2)])] [], .ret (.call i__law_fault_of_expression [(.idx (.v 0) (.k (.int 2))), (.v 1), (.v 2)])]
abbrev F29 : Fn := ⟨3, 7, B__law_fault_of_statement⟩
abbrev F__law_fault_of_statement : Fn := F29
def d29 : He.DefD := ⟨("_law_fault_of_statement", none), "_law_fault_of_statement", "_law_fault_of_statement", defArgs s29, defBody s29, defScope s29, [], []⟩
/-- _law_fault_of_block -/
abbrev s30 : Stmt := top 33
def P30 : List Str := ["_law_block_here", "_law_words", "_law_deeds"]
def N30 : List Str := ["_law_block_here", "_law_words", "_law_deeds", "_law_part"]
def B__law_fault_of_block : List S := [.ret (.call i__law_first [(.lc false (.seq (.v 0)) (.one 3) none (.call i__law_fault_of_statement [(.v 3), (.v 1), (.v 2)]))])]
abbrev F30 : Fn := ⟨3, 4, B__law_fault_of_block⟩
abbrev F__law_fault_of_block : Fn := F30
def d30 : He.DefD := ⟨("_law_fault_of_block", none), "_law_fault_of_block", "_law_fault_of_block", defArgs s30, defBody s30, defScope s30, [], []⟩
/-- _law_mess -/
abbrev s31 : Stmt := top 34
def P31 : List Str := ["_law_number", "_law_words", "_law_deeds"]
def N31 : List Str := ["_law_number", "_law_words", "_law_deeds", "_law_names", "_law_deed", "_law_count", "_law_called"]
def B__law_mess : List S := [.set 3 (.bin (.add false) (.bin (.add false) (.bin (.mul false) (.v 1) (.bin (.add false) (.k (.int 1)) (.bin .mod (.v 0) (.k (.int 3))))) (.sl false (.lc false (.seq (.v 2)) (.tup [4, 5]) none (.v 4)) none (some (.bin .mod (.bin .fdiv (.v 0) (.k (.int 3))) (.k (.int 2)))))) (.sl false (.lst false [(.k (.str "zz"))]) none (some (.bin .mod (.bin .fdiv (.v 0) (.k (.int 6))) (.k (.int 2)))))), .set 6 (.bin (.mul false) (.v 2) (.bin (.add false) (.k (.int 1)) (.bin .mod (.bin .fdiv (.v 0) (.k (.int 12))) (.k (.int 3))))), .ite (.cmp .eq (.bin .mod (.bin .fdiv (.v 0) (.k (.int 36))) (.k (.int 2))) (.k (.int 1))) [.set 6 (.bin (.add false) (.v 6) (.lst false [(.tup [(.k (.str "zy")), (.k (.int 0))]), (.tup [(.idx (.v 1) (.k (.int 0))), (.k (.int 1))])]))] [], .ite (.cmp .eq (.bin .mod (.bin .fdiv (.v 0) (.k (.int 72))) (.k (.int 2))) (.k (.int 1))) [.set 6 (.bin (.add false) (.v 6) (.lc false (.seq (.v 2)) (.tup [4, 5]) none (.tup [(.v 4), (.bin (.add false) (.v 5) (.k (.int 1)))]))), .set 6 (.bin (.add false) (.v 6) (.lc false (.seq (.v 2)) (.tup [4, 5]) (some (.cmp .gt (.v 5) (.k (.int 0)))) (.tup [(.v 4), (.bin .sub (.v 5) (.k (.int 1)))])))] [], .ret (.tup [(.v 3), (.v 6), (.lc false (.seq (.v 6)) (.tup [4, 5]) (some (.cmp .lt (.v 5) (.bin (.add false) (.k (.int 1)) (.bin .mod (.bin .fdiv (.v 0) (.k (.int 144))) (.k (.int 2)))))) (.v 4))])]
abbrev F31 : Fn := ⟨3, 7, B__law_mess⟩
abbrev F__law_mess : Fn := F31
def d31 : He.DefD := ⟨("_law_mess", none), "_law_mess", "_law_mess", defArgs s31, defBody s31, defScope s31, [], []⟩
/-- _law_deed_by -/
abbrev s32 : Stmt := top 35
def P32 : List Str := ["_law_number", "_law_stem_here", "_law_k", "_law_words", "_law_deeds"]
def N32 : List Str := ["_law_number", "_law_stem_here", "_law_k", "_law_words", "_law_deeds", "_law_params", "_law_at", "_law_owns", "_law_names", "_law_called", "_law_plain", "_law_block_here"]
def B__law_deed_by : List S := [.set 5 (.lc false (.rng1 (.idx (.idx (.v 4) (.v 2)) (.k (.int 1)))) (.one 6) none (.call i__law_name [(.v 1), (.bin (.add false) (.k (.int 16)) (.v 6))])), .set 7 (.lst false [(.call i__law_name [(.v 1), (.idx (.lst false [(.k (.int 20)), (.k (.int 0)), (.k (.int 12)), (.k (.int 21))]) (.bin .mod (.bin .fdiv (.v 0) (.k (.int 4))) (.k (.int 4))))])]), .unp [8, 9, 10] (.call i__law_mess [(.bin .fdiv (.v 0) (.k (.int 16))), (.bin (.add false) (.bin (.add false) (.v 3) (.v 5)) (.v 7)), (.v 4)]), .set 11 (.call i__law_block [(.call i__law_drawn [(.v 0), (.k (.int 1))]), (.bin .mod (.v 0) (.k (.int 4))), (.v 8), (.v 9), (.v 10), (.k (.int 2))]), .ret (.tup [(.idx (.idx (.v 4) (.v 2)) (.k (.int 0))), (.bi .tuple [(.v 5)]), (.bi .tuple [(.v 7)]), (.v 11)])]
abbrev F32 : Fn := ⟨5, 12, B__law_deed_by⟩
abbrev F__law_deed_by : Fn := F32
def d32 : He.DefD := ⟨("_law_deed_by", none), "_law_deed_by", "_law_deed_by", defArgs s32, defBody s32, defScope s32, [], []⟩
/-- law -/
abbrev s33 : Stmt := top 36
def P33 : List Str := ["_law_script"]
def N33 : List Str := ["_law_script", "_law_stem_here", "_law_words", "_law_k", "_law_deeds", "_law_made", "_law_names", "_law_called", "_law_plain", "_law_block_here", "_law_unit", "_law_due", "_law_deed", "_law_inner", "_law_outer", "_law_pair"]
def B_law : List S := [.set 1 (.call i__law_mixed [(.v 0), (.k (.int 0))]), .set 2 (.lc false (.rng1 (.bin (.add false) (.k (.int 1)) (.bin .mod (.call i__law_mixed [(.v 0), (.k (.int 1))]) (.k (.int 6))))) (.one 3) none (.call i__law_name [(.v 1), (.v 3)])), .set 4 (.lc false (.rng1 (.bin .mod (.bin .fdiv (.call i__law_mixed [(.v 0), (.k (.int 1))]) (.k (.int 6))) (.k (.int 5)))) (.one 3) none (.tup [(.call i__law_name [(.v 1), (.bin (.add false) (.k (.int 10)) (.v 3))]), (.bin .mod (.call i__law_mixed [(.v 0), (.bin (.add false) (.k (.int 2)) (.v 3))]) (.k (.int 4)))])), .set 5 (.lc false (.rng1 (.bi .len [(.v 4)])) (.one 3) none (.call i__law_deed_by [(.call i__law_mixed [(.v 0), (.bin (.add false) (.k (.int 7)) (.v 3))]), (.v 1), (.v 3), (.v 2), (.v 4)])), .unp [6, 7, 8] (.call i__law_mess [(.call i__law_mixed [(.v 0), (.k (.int 6))]), (.v 2), (.v 4)]), .set 9 (.lst true []), .for_ (.one 3) (.rng1 (.bi .min2 [(.k (.int 20)), (.bi .max2 [(.k (.int 1)), (.bin .sub (.bi .len [(.v 0)]) (.k (.int 12)))])])) [.ex (.bm .append (.v 9) [(.call i__law_statement [(.call i__law_mixed [(.v 0), (.bin (.add false) (.k (.int 12)) (.v 3))]), (.v 6), (.v 7), (.v 8), (.k (.int 2))])])], .set 10 (.tup [(.call i__law_name [(.v 1), (.k (.int 25))]), (.tup []), (.bi .tuple [(.v 2)]), (.bi .tuple [(.v 5)]), (.bi .tuple [(.v 9)])]), .set 11 (.k .non), .for_ (.one 12) (.seq (.v 5)) [.set 13 (.bin (.add false) (.bi (.list false) [(.idx (.v 12) (.k (.int 1)))]) (.bi (.list false) [(.idx (.v 12) (.k (.int 2)))])), .set 14 (.lc false (.seq (.v 4)) (.one 15) (some (.cmp .nin (.idx (.v 15) (.k (.int 0))) (.v 13))) (.v 15)), .set 11 (.call i__law_first [(.lst false [(.v 11), (.call i__law_fault_of_block [(.idx (.v 12) (.k (.int 3))), (.bin (.add false) (.v 2) (.v 13)), (.v 14)])])])], .set 11 (.call i__law_first [(.lst false [(.v 11), (.call i__law_fault_of_block [(.bi .tuple [(.v 9)]), (.v 2), (.v 4)])])]), .ret (.and [(.cmp .eq (.calli i_fault_of [(.v 10), (.dic false), (.k .non)]) (.v 11)), (.cmp .eq (.calli i_fault_of [(.v 10), (.dic false), (.k .non)]) (.v 11))])]
abbrev F33 : Fn := ⟨1, 16, B_law⟩
abbrev F_law : Fn := F33
def d33 : He.DefD := ⟨("law", none), "law", "law", defArgs s33, defBody s33, defScope s33, [], []⟩
def St : Stat where
  at_ := [.glob "told_by", .glob "fault_of_takes", .glob "fault_of_words", .glob "fault_of_deeds", .glob "fault_of_word", .glob "fault_of_deed_name", .glob "fault_of_call", .glob "fault_of_expression", .glob "fault_of_split", .glob "fault_of_second", .glob "fault_of_statement", .glob "fault_of_block", .glob "fault_of_blocks", .glob "fault_of", .glob "_law_cell_at", .glob "_law_mixed", .glob "_law_drawn", .glob "_law_stem", .glob "_law_name", .glob "_law_value", .glob "_law_expression", .glob "_law_short", .glob "_law_statement", .glob "_law_block", .glob "_law_fault_of_word", .glob "_law_fault_of_call", .glob "_law_fault_of_expression", .glob "_law_first", .glob "_law_fault_of_new", .glob "_law_fault_of_statement", .glob "_law_fault_of_block", .glob "_law_mess", .glob "_law_deed_by", .glob "law"]
  cls := []
  exs := []
  gls := [("WORD", (.int (-1)))]
  free := ["len", "dict", "range", "int", "tuple", "min", "max", "list"]
def T : Tb := ⟨[F0, F1, F2, F3, F4, F5, F6, F7, F8, F9, F10, F11, F12, F13, F14, F15, F16, F17, F18, F19, F20, F21, F22, F23, F24, F25, F26, F27, F28, F29, F30, F31, F32, F33], subR []⟩
def fn : List He.DefD := [d0, d1, d2, d3, d4, d5, d6, d7, d8, d9, d10, d11, d12, d13, d14, d15, d16, d17, d18, d19, d20, d21, d22, d23, d24, d25, d26, d27, d28, d29, d30, d31, d32, d33]
theorem sc0 : FnScope N0 P0 d0.scope := ⟨rfl, rfl, rfl, by decide +kernel, rfl, by decide +kernel, by decide +kernel⟩
theorem m0 : mSs St N0 F0.body d0.scope (fun _ => true) d0.body = true := by decide +kernel
theorem b0 : ∀ (kV doc pm : Value) (an : Option Addr) (cdv ct : Value) (us : List Value), us.length = P0.length → bindArgs (PySem.W.fnOf d0.name d0.qual d0.params d0.body d0.scope .none kV doc pm an cdv ct) ⟨us, []⟩ = pure (P0.zip us) :=
  fun _ _ _ _ _ _ us hl => match us, hl with | [_], _ => rfl
theorem e0 : Ent St T fn 0 := ⟨d0, P0, N0, F0, _, List.mem_of_getElem? (i := 0) rfl, rfl, rfl, rfl, rfl, sc0, b0, rfl, rfl, rfl, m0⟩
theorem sc1 : FnScope N1 P1 d1.scope := ⟨rfl, rfl, rfl, by decide +kernel, rfl, by decide +kernel, by decide +kernel⟩
theorem m1 : mSs St N1 F1.body d1.scope (fun _ => true) d1.body = true := by decide +kernel
theorem b1 : ∀ (kV doc pm : Value) (an : Option Addr) (cdv ct : Value) (us : List Value), us.length = P1.length → bindArgs (PySem.W.fnOf d1.name d1.qual d1.params d1.body d1.scope .none kV doc pm an cdv ct) ⟨us, []⟩ = pure (P1.zip us) :=
  fun _ _ _ _ _ _ us hl => match us, hl with | [_, _, _], _ => rfl
theorem e1 : Ent St T fn 1 := ⟨d1, P1, N1, F1, _, List.mem_of_getElem? (i := 1) rfl, rfl, rfl, rfl, rfl, sc1, b1, rfl, rfl, rfl, m1⟩
theorem sc2 : FnScope N2 P2 d2.scope := ⟨rfl, rfl, rfl, by decide +kernel, rfl, by decide +kernel, by decide +kernel⟩
theorem m2 : mSs St N2 F2.body d2.scope (fun _ => true) d2.body = true := by decide +kernel
theorem b2 : ∀ (kV doc pm : Value) (an : Option Addr) (cdv ct : Value) (us : List Value), us.length = P2.length → bindArgs (PySem.W.fnOf d2.name d2.qual d2.params d2.body d2.scope .none kV doc pm an cdv ct) ⟨us, []⟩ = pure (P2.zip us) :=
  fun _ _ _ _ _ _ us hl => match us, hl with | [_, _], _ => rfl
theorem e2 : Ent St T fn 2 := ⟨d2, P2, N2, F2, _, List.mem_of_getElem? (i := 2) rfl, rfl, rfl, rfl, rfl, sc2, b2, rfl, rfl, rfl, m2⟩
theorem sc3 : FnScope N3 P3 d3.scope := ⟨rfl, rfl, rfl, by decide +kernel, rfl, by decide +kernel, by decide +kernel⟩
theorem m3 : mSs St N3 F3.body d3.scope (fun _ => true) d3.body = true := by decide +kernel
theorem b3 : ∀ (kV doc pm : Value) (an : Option Addr) (cdv ct : Value) (us : List Value), us.length = P3.length → bindArgs (PySem.W.fnOf d3.name d3.qual d3.params d3.body d3.scope .none kV doc pm an cdv ct) ⟨us, []⟩ = pure (P3.zip us) :=
  fun _ _ _ _ _ _ us hl => match us, hl with | [_, _, _], _ => rfl
theorem e3 : Ent St T fn 3 := ⟨d3, P3, N3, F3, _, List.mem_of_getElem? (i := 3) rfl, rfl, rfl, rfl, rfl, sc3, b3, rfl, rfl, rfl, m3⟩
theorem sc4 : FnScope N4 P4 d4.scope := ⟨rfl, rfl, rfl, by decide +kernel, rfl, by decide +kernel, by decide +kernel⟩
theorem m4 : mSs St N4 F4.body d4.scope (fun _ => true) d4.body = true := by decide +kernel
theorem b4 : ∀ (kV doc pm : Value) (an : Option Addr) (cdv ct : Value) (us : List Value), us.length = P4.length → bindArgs (PySem.W.fnOf d4.name d4.qual d4.params d4.body d4.scope .none kV doc pm an cdv ct) ⟨us, []⟩ = pure (P4.zip us) :=
  fun _ _ _ _ _ _ us hl => match us, hl with | [_, _, _], _ => rfl
theorem e4 : Ent St T fn 4 := ⟨d4, P4, N4, F4, _, List.mem_of_getElem? (i := 4) rfl, rfl, rfl, rfl, rfl, sc4, b4, rfl, rfl, rfl, m4⟩
theorem sc5 : FnScope N5 P5 d5.scope := ⟨rfl, rfl, rfl, by decide +kernel, rfl, by decide +kernel, by decide +kernel⟩
theorem m5 : mSs St N5 F5.body d5.scope (fun _ => true) d5.body = true := by decide +kernel
theorem b5 : ∀ (kV doc pm : Value) (an : Option Addr) (cdv ct : Value) (us : List Value), us.length = P5.length → bindArgs (PySem.W.fnOf d5.name d5.qual d5.params d5.body d5.scope .none kV doc pm an cdv ct) ⟨us, []⟩ = pure (P5.zip us) :=
  fun _ _ _ _ _ _ us hl => match us, hl with | [_, _, _], _ => rfl
theorem e5 : Ent St T fn 5 := ⟨d5, P5, N5, F5, _, List.mem_of_getElem? (i := 5) rfl, rfl, rfl, rfl, rfl, sc5, b5, rfl, rfl, rfl, m5⟩
theorem sc6 : FnScope N6 P6 d6.scope := ⟨rfl, rfl, rfl, by decide +kernel, rfl, by decide +kernel, by decide +kernel⟩
theorem m6 : mSs St N6 F6.body d6.scope (fun _ => true) d6.body = true := by decide +kernel
theorem b6 : ∀ (kV doc pm : Value) (an : Option Addr) (cdv ct : Value) (us : List Value), us.length = P6.length → bindArgs (PySem.W.fnOf d6.name d6.qual d6.params d6.body d6.scope .none kV doc pm an cdv ct) ⟨us, []⟩ = pure (P6.zip us) :=
  fun _ _ _ _ _ _ us hl => match us, hl with | [_, _, _, _], _ => rfl
theorem e6 : Ent St T fn 6 := ⟨d6, P6, N6, F6, _, List.mem_of_getElem? (i := 6) rfl, rfl, rfl, rfl, rfl, sc6, b6, rfl, rfl, rfl, m6⟩
theorem sc7 : FnScope N7 P7 d7.scope := ⟨rfl, rfl, rfl, by decide +kernel, rfl, by decide +kernel, by decide +kernel⟩
theorem m7 : mSs St N7 F7.body d7.scope (fun _ => true) d7.body = true := by decide +kernel
theorem b7 : ∀ (kV doc pm : Value) (an : Option Addr) (cdv ct : Value) (us : List Value), us.length = P7.length → bindArgs (PySem.W.fnOf d7.name d7.qual d7.params d7.body d7.scope .none kV doc pm an cdv ct) ⟨us, []⟩ = pure (P7.zip us) :=
  fun _ _ _ _ _ _ us hl => match us, hl with | [_, _, _], _ => rfl
theorem e7 : Ent St T fn 7 := ⟨d7, P7, N7, F7, _, List.mem_of_getElem? (i := 7) rfl, rfl, rfl, rfl, rfl, sc7, b7, rfl, rfl, rfl, m7⟩
theorem sc8 : FnScope N8 P8 d8.scope := ⟨rfl, rfl, rfl, by decide +kernel, rfl, by decide +kernel, by decide +kernel⟩
theorem m8 : mSs St N8 F8.body d8.scope (fun _ => true) d8.body = true := by decide +kernel
theorem b8 : ∀ (kV doc pm : Value) (an : Option Addr) (cdv ct : Value) (us : List Value), us.length = P8.length → bindArgs (PySem.W.fnOf d8.name d8.qual d8.params d8.body d8.scope .none kV doc pm an cdv ct) ⟨us, []⟩ = pure (P8.zip us) :=
  fun _ _ _ _ _ _ us hl => match us, hl with | [_, _, _], _ => rfl
theorem e8 : Ent St T fn 8 := ⟨d8, P8, N8, F8, _, List.mem_of_getElem? (i := 8) rfl, rfl, rfl, rfl, rfl, sc8, b8, rfl, rfl, rfl, m8⟩
theorem sc9 : FnScope N9 P9 d9.scope := ⟨rfl, rfl, rfl, by decide +kernel, rfl, by decide +kernel, by decide +kernel⟩
theorem m9 : mSs St N9 F9.body d9.scope (fun _ => true) d9.body = true := by decide +kernel
theorem b9 : ∀ (kV doc pm : Value) (an : Option Addr) (cdv ct : Value) (us : List Value), us.length = P9.length → bindArgs (PySem.W.fnOf d9.name d9.qual d9.params d9.body d9.scope .none kV doc pm an cdv ct) ⟨us, []⟩ = pure (P9.zip us) :=
  fun _ _ _ _ _ _ us hl => match us, hl with | [_, _, _], _ => rfl
theorem e9 : Ent St T fn 9 := ⟨d9, P9, N9, F9, _, List.mem_of_getElem? (i := 9) rfl, rfl, rfl, rfl, rfl, sc9, b9, rfl, rfl, rfl, m9⟩
theorem sc10 : FnScope N10 P10 d10.scope := ⟨rfl, rfl, rfl, by decide +kernel, rfl, by decide +kernel, by decide +kernel⟩
theorem m10 : mSs St N10 F10.body d10.scope (fun _ => true) d10.body = true := by decide +kernel
theorem b10 : ∀ (kV doc pm : Value) (an : Option Addr) (cdv ct : Value) (us : List Value), us.length = P10.length → bindArgs (PySem.W.fnOf d10.name d10.qual d10.params d10.body d10.scope .none kV doc pm an cdv ct) ⟨us, []⟩ = pure (P10.zip us) :=
  fun _ _ _ _ _ _ us hl => match us, hl with | [_, _, _], _ => rfl
theorem e10 : Ent St T fn 10 := ⟨d10, P10, N10, F10, _, List.mem_of_getElem? (i := 10) rfl, rfl, rfl, rfl, rfl, sc10, b10, rfl, rfl, rfl, m10⟩
theorem sc11 : FnScope N11 P11 d11.scope := ⟨rfl, rfl, rfl, by decide +kernel, rfl, by decide +kernel, by decide +kernel⟩
theorem m11 : mSs St N11 F11.body d11.scope (fun _ => true) d11.body = true := by decide +kernel
theorem b11 : ∀ (kV doc pm : Value) (an : Option Addr) (cdv ct : Value) (us : List Value), us.length = P11.length → bindArgs (PySem.W.fnOf d11.name d11.qual d11.params d11.body d11.scope .none kV doc pm an cdv ct) ⟨us, []⟩ = pure (P11.zip us) :=
  fun _ _ _ _ _ _ us hl => match us, hl with | [_, _, _], _ => rfl
theorem e11 : Ent St T fn 11 := ⟨d11, P11, N11, F11, _, List.mem_of_getElem? (i := 11) rfl, rfl, rfl, rfl, rfl, sc11, b11, rfl, rfl, rfl, m11⟩
theorem sc12 : FnScope N12 P12 d12.scope := ⟨rfl, rfl, rfl, by decide +kernel, rfl, by decide +kernel, by decide +kernel⟩
theorem m12 : mSs St N12 F12.body d12.scope (fun _ => true) d12.body = true := by decide +kernel
theorem b12 : ∀ (kV doc pm : Value) (an : Option Addr) (cdv ct : Value) (us : List Value), us.length = P12.length → bindArgs (PySem.W.fnOf d12.name d12.qual d12.params d12.body d12.scope .none kV doc pm an cdv ct) ⟨us, []⟩ = pure (P12.zip us) :=
  fun _ _ _ _ _ _ us hl => match us, hl with | [_, _], _ => rfl
theorem e12 : Ent St T fn 12 := ⟨d12, P12, N12, F12, _, List.mem_of_getElem? (i := 12) rfl, rfl, rfl, rfl, rfl, sc12, b12, rfl, rfl, rfl, m12⟩
theorem sc13 : FnScope N13 P13 d13.scope := ⟨rfl, rfl, rfl, by decide +kernel, rfl, by decide +kernel, by decide +kernel⟩
theorem m13 : mSs St N13 F13.body d13.scope (fun _ => true) d13.body = true := by decide +kernel
theorem b13 : ∀ (kV doc pm : Value) (an : Option Addr) (cdv ct : Value) (us : List Value), us.length = P13.length → bindArgs (PySem.W.fnOf d13.name d13.qual d13.params d13.body d13.scope .none kV doc pm an cdv ct) ⟨us, []⟩ = pure (P13.zip us) :=
  fun _ _ _ _ _ _ us hl => match us, hl with | [_, _, _], _ => rfl
theorem e13 : Ent St T fn 13 := ⟨d13, P13, N13, F13, _, List.mem_of_getElem? (i := 13) rfl, rfl, rfl, rfl, rfl, sc13, b13, rfl, rfl, rfl, m13⟩
theorem sc14 : FnScope N14 P14 d14.scope := ⟨rfl, rfl, rfl, by decide +kernel, rfl, by decide +kernel, by decide +kernel⟩
theorem m14 : mSs St N14 F14.body d14.scope (fun _ => true) d14.body = true := by decide +kernel
theorem b14 : ∀ (kV doc pm : Value) (an : Option Addr) (cdv ct : Value) (us : List Value), us.length = P14.length → bindArgs (PySem.W.fnOf d14.name d14.qual d14.params d14.body d14.scope .none kV doc pm an cdv ct) ⟨us, []⟩ = pure (P14.zip us) :=
  fun _ _ _ _ _ _ us hl => match us, hl with | [_, _], _ => rfl
theorem e14 : Ent St T fn 14 := ⟨d14, P14, N14, F14, _, List.mem_of_getElem? (i := 14) rfl, rfl, rfl, rfl, rfl, sc14, b14, rfl, rfl, rfl, m14⟩
theorem sc15 : FnScope N15 P15 d15.scope := ⟨rfl, rfl, rfl, by decide +kernel, rfl, by decide +kernel, by decide +kernel⟩
theorem m15 : mSs St N15 F15.body d15.scope (fun _ => true) d15.body = true := by decide +kernel
theorem b15 : ∀ (kV doc pm : Value) (an : Option Addr) (cdv ct : Value) (us : List Value), us.length = P15.length → bindArgs (PySem.W.fnOf d15.name d15.qual d15.params d15.body d15.scope .none kV doc pm an cdv ct) ⟨us, []⟩ = pure (P15.zip us) :=
  fun _ _ _ _ _ _ us hl => match us, hl with | [_, _], _ => rfl
theorem e15 : Ent St T fn 15 := ⟨d15, P15, N15, F15, _, List.mem_of_getElem? (i := 15) rfl, rfl, rfl, rfl, rfl, sc15, b15, rfl, rfl, rfl, m15⟩
theorem sc16 : FnScope N16 P16 d16.scope := ⟨rfl, rfl, rfl, by decide +kernel, rfl, by decide +kernel, by decide +kernel⟩
theorem m16 : mSs St N16 F16.body d16.scope (fun _ => true) d16.body = true := by decide +kernel
theorem b16 : ∀ (kV doc pm : Value) (an : Option Addr) (cdv ct : Value) (us : List Value), us.length = P16.length → bindArgs (PySem.W.fnOf d16.name d16.qual d16.params d16.body d16.scope .none kV doc pm an cdv ct) ⟨us, []⟩ = pure (P16.zip us) :=
  fun _ _ _ _ _ _ us hl => match us, hl with | [_, _], _ => rfl
theorem e16 : Ent St T fn 16 := ⟨d16, P16, N16, F16, _, List.mem_of_getElem? (i := 16) rfl, rfl, rfl, rfl, rfl, sc16, b16, rfl, rfl, rfl, m16⟩
theorem sc17 : FnScope N17 P17 d17.scope := ⟨rfl, rfl, rfl, by decide +kernel, rfl, by decide +kernel, by decide +kernel⟩
theorem m17 : mSs St N17 F17.body d17.scope (fun _ => true) d17.body = true := by decide +kernel
theorem b17 : ∀ (kV doc pm : Value) (an : Option Addr) (cdv ct : Value) (us : List Value), us.length = P17.length → bindArgs (PySem.W.fnOf d17.name d17.qual d17.params d17.body d17.scope .none kV doc pm an cdv ct) ⟨us, []⟩ = pure (P17.zip us) :=
  fun _ _ _ _ _ _ us hl => match us, hl with | [_], _ => rfl
theorem e17 : Ent St T fn 17 := ⟨d17, P17, N17, F17, _, List.mem_of_getElem? (i := 17) rfl, rfl, rfl, rfl, rfl, sc17, b17, rfl, rfl, rfl, m17⟩
theorem sc18 : FnScope N18 P18 d18.scope := ⟨rfl, rfl, rfl, by decide +kernel, rfl, by decide +kernel, by decide +kernel⟩
theorem m18 : mSs St N18 F18.body d18.scope (fun _ => true) d18.body = true := by decide +kernel
theorem b18 : ∀ (kV doc pm : Value) (an : Option Addr) (cdv ct : Value) (us : List Value), us.length = P18.length → bindArgs (PySem.W.fnOf d18.name d18.qual d18.params d18.body d18.scope .none kV doc pm an cdv ct) ⟨us, []⟩ = pure (P18.zip us) :=
  fun _ _ _ _ _ _ us hl => match us, hl with | [_, _], _ => rfl
theorem e18 : Ent St T fn 18 := ⟨d18, P18, N18, F18, _, List.mem_of_getElem? (i := 18) rfl, rfl, rfl, rfl, rfl, sc18, b18, rfl, rfl, rfl, m18⟩
theorem sc19 : FnScope N19 P19 d19.scope := ⟨rfl, rfl, rfl, by decide +kernel, rfl, by decide +kernel, by decide +kernel⟩
theorem m19 : mSs St N19 F19.body d19.scope (fun _ => true) d19.body = true := by decide +kernel
theorem b19 : ∀ (kV doc pm : Value) (an : Option Addr) (cdv ct : Value) (us : List Value), us.length = P19.length → bindArgs (PySem.W.fnOf d19.name d19.qual d19.params d19.body d19.scope .none kV doc pm an cdv ct) ⟨us, []⟩ = pure (P19.zip us) :=
  fun _ _ _ _ _ _ us hl => match us, hl with | [_], _ => rfl
theorem e19 : Ent St T fn 19 := ⟨d19, P19, N19, F19, _, List.mem_of_getElem? (i := 19) rfl, rfl, rfl, rfl, rfl, sc19, b19, rfl, rfl, rfl, m19⟩
theorem sc20 : FnScope N20 P20 d20.scope := ⟨rfl, rfl, rfl, by decide +kernel, rfl, by decide +kernel, by decide +kernel⟩
theorem m20 : mSs St N20 F20.body d20.scope (fun _ => true) d20.body = true := by decide +kernel
theorem b20 : ∀ (kV doc pm : Value) (an : Option Addr) (cdv ct : Value) (us : List Value), us.length = P20.length → bindArgs (PySem.W.fnOf d20.name d20.qual d20.params d20.body d20.scope .none kV doc pm an cdv ct) ⟨us, []⟩ = pure (P20.zip us) :=
  fun _ _ _ _ _ _ us hl => match us, hl with | [_, _, _, _], _ => rfl
theorem e20 : Ent St T fn 20 := ⟨d20, P20, N20, F20, _, List.mem_of_getElem? (i := 20) rfl, rfl, rfl, rfl, rfl, sc20, b20, rfl, rfl, rfl, m20⟩
theorem sc21 : FnScope N21 P21 d21.scope := ⟨rfl, rfl, rfl, by decide +kernel, rfl, by decide +kernel, by decide +kernel⟩
theorem m21 : mSs St N21 F21.body d21.scope (fun _ => true) d21.body = true := by decide +kernel
theorem b21 : ∀ (kV doc pm : Value) (an : Option Addr) (cdv ct : Value) (us : List Value), us.length = P21.length → bindArgs (PySem.W.fnOf d21.name d21.qual d21.params d21.body d21.scope .none kV doc pm an cdv ct) ⟨us, []⟩ = pure (P21.zip us) :=
  fun _ _ _ _ _ _ us hl => match us, hl with | [_, _, _, _], _ => rfl
theorem e21 : Ent St T fn 21 := ⟨d21, P21, N21, F21, _, List.mem_of_getElem? (i := 21) rfl, rfl, rfl, rfl, rfl, sc21, b21, rfl, rfl, rfl, m21⟩
theorem sc22 : FnScope N22 P22 d22.scope := ⟨rfl, rfl, rfl, by decide +kernel, rfl, by decide +kernel, by decide +kernel⟩
theorem m22 : mSs St N22 F22.body d22.scope (fun _ => true) d22.body = true := by decide +kernel
theorem b22 : ∀ (kV doc pm : Value) (an : Option Addr) (cdv ct : Value) (us : List Value), us.length = P22.length → bindArgs (PySem.W.fnOf d22.name d22.qual d22.params d22.body d22.scope .none kV doc pm an cdv ct) ⟨us, []⟩ = pure (P22.zip us) :=
  fun _ _ _ _ _ _ us hl => match us, hl with | [_, _, _, _, _], _ => rfl
theorem e22 : Ent St T fn 22 := ⟨d22, P22, N22, F22, _, List.mem_of_getElem? (i := 22) rfl, rfl, rfl, rfl, rfl, sc22, b22, rfl, rfl, rfl, m22⟩
theorem sc23 : FnScope N23 P23 d23.scope := ⟨rfl, rfl, rfl, by decide +kernel, rfl, by decide +kernel, by decide +kernel⟩
theorem m23 : mSs St N23 F23.body d23.scope (fun _ => true) d23.body = true := by decide +kernel
theorem b23 : ∀ (kV doc pm : Value) (an : Option Addr) (cdv ct : Value) (us : List Value), us.length = P23.length → bindArgs (PySem.W.fnOf d23.name d23.qual d23.params d23.body d23.scope .none kV doc pm an cdv ct) ⟨us, []⟩ = pure (P23.zip us) :=
  fun _ _ _ _ _ _ us hl => match us, hl with | [_, _, _, _, _, _], _ => rfl
theorem e23 : Ent St T fn 23 := ⟨d23, P23, N23, F23, _, List.mem_of_getElem? (i := 23) rfl, rfl, rfl, rfl, rfl, sc23, b23, rfl, rfl, rfl, m23⟩
theorem sc24 : FnScope N24 P24 d24.scope := ⟨rfl, rfl, rfl, by decide +kernel, rfl, by decide +kernel, by decide +kernel⟩
theorem m24 : mSs St N24 F24.body d24.scope (fun _ => true) d24.body = true := by decide +kernel
theorem b24 : ∀ (kV doc pm : Value) (an : Option Addr) (cdv ct : Value) (us : List Value), us.length = P24.length → bindArgs (PySem.W.fnOf d24.name d24.qual d24.params d24.body d24.scope .none kV doc pm an cdv ct) ⟨us, []⟩ = pure (P24.zip us) :=
  fun _ _ _ _ _ _ us hl => match us, hl with | [_, _, _], _ => rfl
theorem e24 : Ent St T fn 24 := ⟨d24, P24, N24, F24, _, List.mem_of_getElem? (i := 24) rfl, rfl, rfl, rfl, rfl, sc24, b24, rfl, rfl, rfl, m24⟩
theorem sc25 : FnScope N25 P25 d25.scope := ⟨rfl, rfl, rfl, by decide +kernel, rfl, by decide +kernel, by decide +kernel⟩
theorem m25 : mSs St N25 F25.body d25.scope (fun _ => true) d25.body = true := by decide +kernel
theorem b25 : ∀ (kV doc pm : Value) (an : Option Addr) (cdv ct : Value) (us : List Value), us.length = P25.length → bindArgs (PySem.W.fnOf d25.name d25.qual d25.params d25.body d25.scope .none kV doc pm an cdv ct) ⟨us, []⟩ = pure (P25.zip us) :=
  fun _ _ _ _ _ _ us hl => match us, hl with | [_, _, _, _], _ => rfl
theorem e25 : Ent St T fn 25 := ⟨d25, P25, N25, F25, _, List.mem_of_getElem? (i := 25) rfl, rfl, rfl, rfl, rfl, sc25, b25, rfl, rfl, rfl, m25⟩
theorem sc26 : FnScope N26 P26 d26.scope := ⟨rfl, rfl, rfl, by decide +kernel, rfl, by decide +kernel, by decide +kernel⟩
theorem m26 : mSs St N26 F26.body d26.scope (fun _ => true) d26.body = true := by decide +kernel
theorem b26 : ∀ (kV doc pm : Value) (an : Option Addr) (cdv ct : Value) (us : List Value), us.length = P26.length → bindArgs (PySem.W.fnOf d26.name d26.qual d26.params d26.body d26.scope .none kV doc pm an cdv ct) ⟨us, []⟩ = pure (P26.zip us) :=
  fun _ _ _ _ _ _ us hl => match us, hl with | [_, _, _], _ => rfl
theorem e26 : Ent St T fn 26 := ⟨d26, P26, N26, F26, _, List.mem_of_getElem? (i := 26) rfl, rfl, rfl, rfl, rfl, sc26, b26, rfl, rfl, rfl, m26⟩
theorem sc27 : FnScope N27 P27 d27.scope := ⟨rfl, rfl, rfl, by decide +kernel, rfl, by decide +kernel, by decide +kernel⟩
theorem m27 : mSs St N27 F27.body d27.scope (fun _ => true) d27.body = true := by decide +kernel
theorem b27 : ∀ (kV doc pm : Value) (an : Option Addr) (cdv ct : Value) (us : List Value), us.length = P27.length → bindArgs (PySem.W.fnOf d27.name d27.qual d27.params d27.body d27.scope .none kV doc pm an cdv ct) ⟨us, []⟩ = pure (P27.zip us) :=
  fun _ _ _ _ _ _ us hl => match us, hl with | [_], _ => rfl
theorem e27 : Ent St T fn 27 := ⟨d27, P27, N27, F27, _, List.mem_of_getElem? (i := 27) rfl, rfl, rfl, rfl, rfl, sc27, b27, rfl, rfl, rfl, m27⟩
theorem sc28 : FnScope N28 P28 d28.scope := ⟨rfl, rfl, rfl, by decide +kernel, rfl, by decide +kernel, by decide +kernel⟩
theorem m28 : mSs St N28 F28.body d28.scope (fun _ => true) d28.body = true := by decide +kernel
theorem b28 : ∀ (kV doc pm : Value) (an : Option Addr) (cdv ct : Value) (us : List Value), us.length = P28.length → bindArgs (PySem.W.fnOf d28.name d28.qual d28.params d28.body d28.scope .none kV doc pm an cdv ct) ⟨us, []⟩ = pure (P28.zip us) :=
  fun _ _ _ _ _ _ us hl => match us, hl with | [_, _, _], _ => rfl
theorem e28 : Ent St T fn 28 := ⟨d28, P28, N28, F28, _, List.mem_of_getElem? (i := 28) rfl, rfl, rfl, rfl, rfl, sc28, b28, rfl, rfl, rfl, m28⟩
theorem sc29 : FnScope N29 P29 d29.scope := ⟨rfl, rfl, rfl, by decide +kernel, rfl, by decide +kernel, by decide +kernel⟩
theorem m29 : mSs St N29 F29.body d29.scope (fun _ => true) d29.body = true := by decide +kernel
theorem b29 : ∀ (kV doc pm : Value) (an : Option Addr) (cdv ct : Value) (us : List Value), us.length = P29.length → bindArgs (PySem.W.fnOf d29.name d29.qual d29.params d29.body d29.scope .none kV doc pm an cdv ct) ⟨us, []⟩ = pure (P29.zip us) :=
  fun _ _ _ _ _ _ us hl => match us, hl with | [_, _, _], _ => rfl
theorem e29 : Ent St T fn 29 := ⟨d29, P29, N29, F29, _, List.mem_of_getElem? (i := 29) rfl, rfl, rfl, rfl, rfl, sc29, b29, rfl, rfl, rfl, m29⟩
theorem sc30 : FnScope N30 P30 d30.scope := ⟨rfl, rfl, rfl, by decide +kernel, rfl, by decide +kernel, by decide +kernel⟩
theorem m30 : mSs St N30 F30.body d30.scope (fun _ => true) d30.body = true := by decide +kernel
theorem b30 : ∀ (kV doc pm : Value) (an : Option Addr) (cdv ct : Value) (us : List Value), us.length = P30.length → bindArgs (PySem.W.fnOf d30.name d30.qual d30.params d30.body d30.scope .none kV doc pm an cdv ct) ⟨us, []⟩ = pure (P30.zip us) :=
  fun _ _ _ _ _ _ us hl => match us, hl with | [_, _, _], _ => rfl
theorem e30 : Ent St T fn 30 := ⟨d30, P30, N30, F30, _, List.mem_of_getElem? (i := 30) rfl, rfl, rfl, rfl, rfl, sc30, b30, rfl, rfl, rfl, m30⟩
theorem sc31 : FnScope N31 P31 d31.scope := ⟨rfl, rfl, rfl, by decide +kernel, rfl, by decide +kernel, by decide +kernel⟩
theorem m31 : mSs St N31 F31.body d31.scope (fun _ => true) d31.body = true := by decide +kernel
theorem b31 : ∀ (kV doc pm : Value) (an : Option Addr) (cdv ct : Value) (us : List Value), us.length = P31.length → bindArgs (PySem.W.fnOf d31.name d31.qual d31.params d31.body d31.scope .none kV doc pm an cdv ct) ⟨us, []⟩ = pure (P31.zip us) :=
  fun _ _ _ _ _ _ us hl => match us, hl with | [_, _, _], _ => rfl
theorem e31 : Ent St T fn 31 := ⟨d31, P31, N31, F31, _, List.mem_of_getElem? (i := 31) rfl, rfl, rfl, rfl, rfl, sc31, b31, rfl, rfl, rfl, m31⟩
theorem sc32 : FnScope N32 P32 d32.scope := ⟨rfl, rfl, rfl, by decide +kernel, rfl, by decide +kernel, by decide +kernel⟩
theorem m32 : mSs St N32 F32.body d32.scope (fun _ => true) d32.body = true := by decide +kernel
theorem b32 : ∀ (kV doc pm : Value) (an : Option Addr) (cdv ct : Value) (us : List Value), us.length = P32.length → bindArgs (PySem.W.fnOf d32.name d32.qual d32.params d32.body d32.scope .none kV doc pm an cdv ct) ⟨us, []⟩ = pure (P32.zip us) :=
  fun _ _ _ _ _ _ us hl => match us, hl with | [_, _, _, _, _], _ => rfl
theorem e32 : Ent St T fn 32 := ⟨d32, P32, N32, F32, _, List.mem_of_getElem? (i := 32) rfl, rfl, rfl, rfl, rfl, sc32, b32, rfl, rfl, rfl, m32⟩
theorem sc33 : FnScope N33 P33 d33.scope := ⟨rfl, rfl, rfl, by decide +kernel, rfl, by decide +kernel, by decide +kernel⟩
theorem m33 : mSs St N33 F33.body d33.scope (fun _ => true) d33.body = true := by decide +kernel
theorem b33 : ∀ (kV doc pm : Value) (an : Option Addr) (cdv ct : Value) (us : List Value), us.length = P33.length → bindArgs (PySem.W.fnOf d33.name d33.qual d33.params d33.body d33.scope .none kV doc pm an cdv ct) ⟨us, []⟩ = pure (P33.zip us) :=
  fun _ _ _ _ _ _ us hl => match us, hl with | [_], _ => rfl
theorem e33 : Ent St T fn 33 := ⟨d33, P33, N33, F33, _, List.mem_of_getElem? (i := 33) rfl, rfl, rfl, rfl, rfl, sc33, b33, rfl, rfl, rfl, m33⟩
theorem ents : ∀ f a, St.at_[f]? = some a → Ent St T fn f := fun f a h => by
  match f, h with
  | 0, _ => exact e0
  | 1, _ => exact e1
  | 2, _ => exact e2
  | 3, _ => exact e3
  | 4, _ => exact e4
  | 5, _ => exact e5
  | 6, _ => exact e6
  | 7, _ => exact e7
  | 8, _ => exact e8
  | 9, _ => exact e9
  | 10, _ => exact e10
  | 11, _ => exact e11
  | 12, _ => exact e12
  | 13, _ => exact e13
  | 14, _ => exact e14
  | 15, _ => exact e15
  | 16, _ => exact e16
  | 17, _ => exact e17
  | 18, _ => exact e18
  | 19, _ => exact e19
  | 20, _ => exact e20
  | 21, _ => exact e21
  | 22, _ => exact e22
  | 23, _ => exact e23
  | 24, _ => exact e24
  | 25, _ => exact e25
  | 26, _ => exact e26
  | 27, _ => exact e27
  | 28, _ => exact e28
  | 29, _ => exact e29
  | 30, _ => exact e30
  | 31, _ => exact e31
  | 32, _ => exact e32
  | 33, _ => exact e33
  | n + 34, h => simp [St] at h
theorem hx : ∃ (d : He.DefD) (N : List Str) (F : Fn), d ∈ fn ∧ d.dfl = [] ∧ d.kwd = [] ∧ d.at_ = (("law" : Str), (none : Option Str)) ∧ FnScope N ["_law_script"] d.scope ∧
    (∀ (kV doc pm : Value) (an : Option Addr) (cdv ct : Value) (us : List Value), us.length = [("_law_script" : Str)].length → bindArgs (PySem.W.fnOf d.name d.qual d.params d.body d.scope .none kV doc pm an cdv ct) ⟨us, []⟩ = pure ([("_law_script" : Str)].zip us)) ∧
    T.fns[33]? = some F ∧ F.nps = 1 ∧ F.nsl = N.length ∧ mSs St N F.body d.scope (fun _ => true) d.body = true :=
  ⟨d33, N33, F33, List.mem_of_getElem? (i := 33) rfl, rfl, rfl, rfl, sc33, b33, rfl, rfl, rfl, m33⟩
/-! the head -/
abbrev R : PySem.W.OpenRow := PySem.W.OpenLaw.row PySem.Challenge.rw_joinmill_k11_blocks_of_units
abbrev hk : PySem.W.Hook := hookJ 5 (faOf St T) fn (exOf St T)
def ob (s : PySem.W.SharedT) : He.AlD := obsJG 5 (faOf St T) fn (exOf St T) (HandSHeadRun.getT s)
theorem ob_eq (s : PySem.W.SharedT) : ob s = hk.obs s.abs := obsJG_eq (HandSHeadRun.getT_eq s)
def loose : List Str := (["__name__", "WORD", "told_by", "fault_of_takes", "fault_of_words", "fault_of_deeds", "fault_of_word", "fault_of_deed_name", "fault_of_call", "fault_of_expression", "fault_of_split", "fault_of_second", "fault_of_statement", "fault_of_block", "fault_of_blocks", "fault_of", "_law_cell_at", "_law_mixed", "_law_drawn", "_law_stem", "_law_name", "_law_value", "_law_expression", "_law_short", "_law_statement", "_law_block", "_law_fault_of_word", "_law_fault_of_call", "_law_fault_of_expression", "_law_first"] : List Str) ++ (["_law_fault_of_new", "_law_fault_of_statement", "_law_fault_of_block", "_law_mess", "_law_deed_by"] : List Str)
theorem run (w : World) : HandSHeadRun.RunEq R (PySem.W.view R.prog [36]) hk ob 6000 loose w := by
  intro os
  kernel_rfl
end K11


namespace K11
open PySem JM L2
/-! ### the drawn numbers -/
def cell (ns : List Int) (k : Nat) : Int := ns.getD k 0
def mix (c : Int) (k : Int) : Int :=
  let d := ((c + 7919 * k + 1) * 48271).fmod 2147483647
  (d * d + 7 * d + k).fmod 2147483629
def drw (c : Int) (k : Int) : Int :=
  let d := ((c + 104729 * k + 17) * 69621).fmod 2147483647
  (d * d + 3 * d + k).fmod 2147483629
theorem fm_lo (a b : Int) (h : 0 < b) : 0 ≤ a.fmod b := Int.fmod_nonneg_of_pos a h
theorem fm_hi (a b : Int) (h : 0 < b) : a.fmod b < b := Int.fmod_lt_of_pos a h
theorem mix_lo (c k : Int) : 0 ≤ mix c k := fm_lo _ _ (by decide)
theorem mix_hi (c k : Int) : mix c k < 2147483629 := fm_hi _ _ (by decide)
theorem drw_lo (c k : Int) : 0 ≤ drw c k := fm_lo _ _ (by decide)
theorem drw_hi (c k : Int) : drw c k < 2147483629 := fm_hi _ _ (by decide)
theorem o_cell {n : Nat} (h : 1 ≤ n) (ns : List Int) (k : Nat) (s : Sto) : callF T n i__law_cell_at [.f (.scr ns), .f (.int k)] s = .ok (.f (.int (cell ns k))) s := by
  obtain ⟨n, rfl⟩ : ∃ m, n = m + 1 := ⟨n - 1, by omega⟩
  rw [call_eq (F := F__law_cell_at) rfl rfl]
  simp only [B__law_cell_at]
  (simp (disch := first | omega | assumption | rfl | (simp only [List.length_cons, List.length_nil, List.length_map, List.length_append, len_appS]; omega)) only [evA, evC, Nat.reduceAdd, Nat.reduceSub, Int.reduceLT, Int.reduceLE, Int.reduceNeg, Int.reduceToNat, Int.reducePow, Int.reduceAdd, Int.reduceMul, Int.reduceEq, Int.reduceSub, reduceIte, reduceCtorEq])
  unfold cell
  by_cases hk : k < ns.length
  · have h1 : decide ((k : Int) < (ns.length : Nat)) = true := by simpa using hk
    simp only [h1]
    rw [atI_get _ _ (by omega) (by omega)]
    simp [hk, O.res]
  · have h1 : decide ((k : Int) < (ns.length : Nat)) = false := by simpa using hk
    simp only [h1]
    (simp (disch := first | omega | assumption | rfl | (simp only [List.length_cons, List.length_nil, List.length_map, List.length_append, len_appS]; omega)) only [evA, evC, Nat.reduceAdd, Nat.reduceSub, Int.reduceLT, Int.reduceLE, Int.reduceNeg, Int.reduceToNat, Int.reducePow, Int.reduceAdd, Int.reduceMul, Int.reduceEq, Int.reduceSub, reduceIte, reduceCtorEq])
    simp [List.getElem?_eq_none (Nat.le_of_not_lt hk), O.res]
theorem o_mixed {n : Nat} (h : 2 ≤ n) (ns : List Int) (k : Nat) (s : Sto) : callF T n i__law_mixed [.f (.scr ns), .f (.int k)] s = .ok (.f (.int (mix (cell ns k) k))) s := by
  obtain ⟨n, rfl⟩ : ∃ m, n = m + 1 := ⟨n - 1, by omega⟩
  rw [call_eq (F := F__law_mixed) rfl rfl]
  simp only [B__law_mixed]
  (simp (disch := first | omega | assumption | rfl | (simp only [List.length_cons, List.length_nil, List.length_map, List.length_append, len_appS]; omega)) only [evA, evC, Nat.reduceAdd, Nat.reduceSub, Int.reduceLT, Int.reduceLE, Int.reduceNeg, Int.reduceToNat, Int.reducePow, Int.reduceAdd, Int.reduceMul, Int.reduceEq, Int.reduceSub, reduceIte, reduceCtorEq])
  rw [o_cell (by omega)]
  (simp (disch := first | omega | assumption | rfl | (simp only [List.length_cons, List.length_nil, List.length_map, List.length_append, len_appS]; omega)) only [evA, evC, Nat.reduceAdd, Nat.reduceSub, Int.reduceLT, Int.reduceLE, Int.reduceNeg, Int.reduceToNat, Int.reducePow, Int.reduceAdd, Int.reduceMul, Int.reduceEq, Int.reduceSub, reduceIte, reduceCtorEq])
  have h1 := fm_lo ((cell ns k + 7919 * (k : Int) + 1) * 48271) 2147483647 (by decide)
  have h2 := fm_hi ((cell ns k + 7919 * (k : Int) + 1) * 48271) 2147483647 (by decide)
  simp only [mix]
  generalize ((cell ns k + 7919 * (k : Int) + 1) * 48271).fmod 2147483647 = d at h1 h2 ⊢
  (simp (disch := first | omega | assumption | rfl | (simp only [List.length_cons, List.length_nil, List.length_map, List.length_append, len_appS]; omega)) only [evA, evC, Nat.reduceAdd, Nat.reduceSub, Int.reduceLT, Int.reduceLE, Int.reduceNeg, Int.reduceToNat, Int.reducePow, Int.reduceAdd, Int.reduceMul, Int.reduceEq, Int.reduceSub, reduceIte, reduceCtorEq])
theorem o_drawn {n : Nat} (h : 1 ≤ n) (c : Int) (k : Int) (hk : 0 ≤ k ∧ k < 1000) (s : Sto) : callF T n i__law_drawn [.f (.int c), .f (.int k)] s = .ok (.f (.int (drw c k))) s := by
  obtain ⟨n, rfl⟩ : ∃ m, n = m + 1 := ⟨n - 1, by omega⟩
  rw [call_eq (F := F__law_drawn) rfl rfl]
  simp only [B__law_drawn]
  (simp (disch := first | omega | assumption | rfl | (simp only [List.length_cons, List.length_nil, List.length_map, List.length_append, len_appS]; omega)) only [evA, evC, Nat.reduceAdd, Nat.reduceSub, Int.reduceLT, Int.reduceLE, Int.reduceNeg, Int.reduceToNat, Int.reducePow, Int.reduceAdd, Int.reduceMul, Int.reduceEq, Int.reduceSub, reduceIte, reduceCtorEq])
  have h1 := fm_lo ((c + 104729 * k + 17) * 69621) 2147483647 (by decide)
  have h2 := fm_hi ((c + 104729 * k + 17) * 69621) 2147483647 (by decide)
  simp only [drw]
  generalize ((c + 104729 * k + 17) * 69621).fmod 2147483647 = d at h1 h2 ⊢
  (simp (disch := first | omega | assumption | rfl | (simp only [List.length_cons, List.length_nil, List.length_map, List.length_append, len_appS]; omega)) only [evA, evC, Nat.reduceAdd, Nat.reduceSub, Int.reduceLT, Int.reduceLE, Int.reduceNeg, Int.reduceToNat, Int.reducePow, Int.reduceAdd, Int.reduceMul, Int.reduceEq, Int.reduceSub, reduceIte, reduceCtorEq])
def mx (ns : List Int) (k : Int) : Int := mix (cell ns k.toNat) k
theorem mx_lo (ns : List Int) (k : Int) : 0 ≤ mx ns k := mix_lo _ _
theorem mx_hi (ns : List Int) (k : Int) : mx ns k < 2147483629 := mix_hi _ _
theorem o_mix {n : Nat} (h : 2 ≤ n) (ns : List Int) (k : Int) (hk : 0 ≤ k) (s : Sto) : callF T n i__law_mixed [.f (.scr ns), .f (.int k)] s = .ok (.f (.int (mx ns k))) s := by
  have := o_mixed h ns k.toNat s
  rw [Int.toNat_of_nonneg hk] at this
  exact this


end K11

namespace K11
open PySem JM L2
/-! ### names -/
abbrev lets : Str := "abcdefghijklmnopqrstuvwxyz"
theorem lets_len : lets.cps.toList.length = 26 := by decide +kernel
theorem lets_get : ∀ j : Fin 26, lets.cps.toList[j.1]? = some (97 + j.1) := by decide +kernel
theorem lets_at {k : Int} (h : 0 ≤ k) (h2 : k < 26) : atI lets.cps.toList k = some (97 + k.toNat) := by
  rw [atI_get _ _ h (by rw [lets_len]; exact h2)]
  exact lets_get ⟨k.toNat, by omega⟩
def stemL (c : Int) : Nat → List Nat
  | 0 => []
  | k + 1 => stemL c k ++ [97 + ((c.fdiv (7 + 26 * (k : Int))).fmod 26).toNat]
theorem stemL_len (c : Int) : ∀ k, (stemL c k).length = k
  | 0 => rfl
  | k + 1 => by simp [stemL, stemL_len c k]
theorem stemL_low (c : Int) : ∀ k, ∀ x ∈ stemL c k, 97 ≤ x ∧ x ≤ 122
  | 0, x, h => by simp [stemL] at h
  | k + 1, x, h => by
    have h1 := fm_lo (c.fdiv (7 + 26 * (k : Int))) 26 (by decide)
    have h2 := fm_hi (c.fdiv (7 + 26 * (k : Int))) 26 (by decide)
    rcases List.mem_append.mp h with z | z
    · exact stemL_low c k x z
    · simp at z; omega
def stem (c : Int) : Str := mkS (stemL c (c.fmod 7).toNat)
theorem o_stem {n : Nat} (h : 1 ≤ n) (c : Int) (s : Sto) : callF T n i__law_stem [.f (.int c)] s = .ok (.f (.str (stem c))) s := by
  obtain ⟨n, rfl⟩ : ∃ m, n = m + 1 := ⟨n - 1, by omega⟩
  rw [call_eq (F := F__law_stem) rfl rfl]
  have h1 := fm_lo c 7 (by decide)
  have h2 := fm_hi c 7 (by decide)
  simp only [B__law_stem]
  (simp (disch := first | omega | assumption | rfl | (simp only [List.length_cons, List.length_nil, List.length_map, List.length_append, len_appS]; omega)) only [evA, evC, Nat.reduceAdd, Nat.reduceSub, Int.reduceLT, Int.reduceLE, Int.reduceNeg, Int.reduceToNat, Int.reducePow, Int.reduceAdd, Int.reduceMul, Int.reduceEq, Int.reduceSub, reduceIte, reduceCtorEq])
  obtain ⟨env', s', hf, ⟨x, he⟩, hs⟩ := for_run (call := callF T n) (mk := callM T n) (sub := T.sub) (s := s) (p := .one 3) (it := .rng1 (.bin .mod (.v 0) (.k (.int 7))))
    (env := [some (D.f (F.int c)), some (D.f (F.str (Str.ofString "abcdefghijklmnopqrstuvwxyz"))), some (D.f (F.str (Str.ofString ""))), none]) (items := rngL 0 (c.fmod 7).toNat) (by (simp (disch := first | omega | assumption | rfl | (simp only [List.length_cons, List.length_nil, List.length_map, List.length_append, len_appS]; omega)) only [evA, evC, Nat.reduceAdd, Nat.reduceSub, Int.reduceLT, Int.reduceLE, Int.reduceNeg, Int.reduceToNat, Int.reducePow, Int.reduceAdd, Int.reduceMul, Int.reduceEq, Int.reduceSub, reduceIte, reduceCtorEq]))
    (b := [.set 2 (.bin (.add false) (.v 2) (.idx (.v 1) (.bin .mod (.bin .fdiv (.v 0) (.bin (.add false) (.k (.int 7)) (.bin (.mul false) (.k (.int 26)) (.v 3)))) (.k (.int 26)))))])
    (fun i env s' => (∃ x, env = [some (.f (.int c)), some (.f (.str lets)), some (.f (.str (mkS (stemL c i)))), x]) ∧ s' = s) ⟨⟨none, rfl⟩, rfl⟩ (fun j x env s2 hx ⟨⟨y, he⟩, hs⟩ => by
      subst he; subst hs
      obtain ⟨hj, rfl⟩ := rngL_get hx
      have k1 := fm_lo (c.fdiv (7 + 26 * (j : Int))) 26 (by decide)
      have k2 := fm_hi (c.fdiv (7 + 26 * (j : Int))) 26 (by decide)
      refine ⟨_, [some (D.f (F.int c)), some (D.f (F.str lets)), some (D.f (F.str (mkS (stemL c (j + 1))))), some (D.f (F.int (j : Nat)))], s2, rfl, .inl ?_, ⟨_, rfl⟩, rfl⟩
      simp only [Int.zero_add]
      (simp (disch := first | omega | assumption | rfl | (simp only [List.length_cons, List.length_nil, List.length_map, List.length_append, len_appS]; omega)) only [evA, evC, Nat.reduceAdd, Nat.reduceSub, Int.reduceLT, Int.reduceLE, Int.reduceNeg, Int.reduceToNat, Int.reducePow, Int.reduceAdd, Int.reduceMul, Int.reduceEq, Int.reduceSub, reduceIte, reduceCtorEq])
      rw [lets_at k1 k2]
      have hl : (mkS (stemL c j)).length = j := by rw [mkS_len, stemL_len]
      have hl2 : (one (97 + ((c.fdiv (7 + 26 * (j : Int))).fmod 26).toNat)).length = 1 := rfl
      (simp (disch := first | omega | assumption | rfl | (simp only [List.length_cons, List.length_nil, List.length_map, List.length_append, len_appS]; omega)) only [evA, evC, Nat.reduceAdd, Nat.reduceSub, Int.reduceLT, Int.reduceLE, Int.reduceNeg, Int.reduceToNat, Int.reducePow, Int.reduceAdd, Int.reduceMul, Int.reduceEq, Int.reduceSub, reduceIte, reduceCtorEq])
      rw [one_mk, mkS_app]
      rfl)
  rw [hf]
  subst he; subst hs
  (simp (disch := first | omega | assumption | rfl | (simp only [List.length_cons, List.length_nil, List.length_map, List.length_append, len_appS]; omega)) only [evA, evC, Nat.reduceAdd, Nat.reduceSub, Int.reduceLT, Int.reduceLE, Int.reduceNeg, Int.reduceToNat, Int.reducePow, Int.reduceAdd, Int.reduceMul, Int.reduceEq, Int.reduceSub, reduceIte, reduceCtorEq])
  simp only [rngL_len, stem]
def nameL (c k : Int) : List Nat := stemL c (c.fmod 7).toNat ++ [97 + (k.fmod 26).toNat] ++ (if 0 < c.fmod 7 then [122] else [])
def nameS (c k : Int) : Str := mkS (nameL c k)
theorem nameL_low (c k : Int) : ∀ x ∈ nameL c k, 97 ≤ x ∧ x ≤ 122 := fun x h => by
  have h1 := fm_lo k 26 (by decide)
  have h2 := fm_hi k 26 (by decide)
  unfold nameL at h
  rcases List.mem_append.mp h with z | z
  · rcases List.mem_append.mp z with z | z
    · exact stemL_low c _ x z
    · simp at z; omega
  · split at z
    · simp at z; omega
    · simp at z
theorem nameL_len (c k : Int) : 1 ≤ (nameL c k).length ∧ (nameL c k).length ≤ 8 := by
  have h1 := fm_lo c 7 (by decide)
  have h2 := fm_hi c 7 (by decide)
  unfold nameL
  rw [List.length_append, List.length_append, stemL_len]
  split <;> simp <;> omega
theorem o_name {n : Nat} (h : 2 ≤ n) (c k : Int) (s : Sto) : callF T n i__law_name [.f (.int c), .f (.int k)] s = .ok (.f (.str (nameS c k))) s := by
  obtain ⟨n, rfl⟩ : ∃ m, n = m + 1 := ⟨n - 1, by omega⟩
  rw [call_eq (F := F__law_name) rfl rfl]
  have h1 := fm_lo c 7 (by decide)
  have h2 := fm_hi c 7 (by decide)
  have k1 := fm_lo k 26 (by decide)
  have k2 := fm_hi k 26 (by decide)
  simp only [B__law_name]
  (simp (disch := first | omega | assumption | rfl | (simp only [List.length_cons, List.length_nil, List.length_map, List.length_append, len_appS]; omega)) only [evA, evC, Nat.reduceAdd, Nat.reduceSub, Int.reduceLT, Int.reduceLE, Int.reduceNeg, Int.reduceToNat, Int.reducePow, Int.reduceAdd, Int.reduceMul, Int.reduceEq, Int.reduceSub, reduceIte, reduceCtorEq])
  rw [o_stem (by omega)]
  (simp (disch := first | omega | assumption | rfl | (simp only [List.length_cons, List.length_nil, List.length_map, List.length_append, len_appS]; omega)) only [evA, evC, Nat.reduceAdd, Nat.reduceSub, Int.reduceLT, Int.reduceLE, Int.reduceNeg, Int.reduceToNat, Int.reducePow, Int.reduceAdd, Int.reduceMul, Int.reduceEq, Int.reduceSub, reduceIte, reduceCtorEq])
  rw [lets_at k1 k2]
  have l1 : (stem c).length = (c.fmod 7).toNat := by rw [stem, mkS_len, stemL_len]
  have l2 : (one (97 + (k.fmod 26).toNat)).length = 1 := rfl
  have l3 : (Str.ofString "z").length = 1 := rfl
  have l4 : (stem c ++ one (97 + (k.fmod 26).toNat)).length = (c.fmod 7).toNat + 1 := by rw [len_appS, l1, l2]
  have ez : (Str.ofString "z") = mkS [122] := rfl
  by_cases hc : 0 < c.fmod 7
  · simp only [hc, decide_true, if_true]
    have l5 : (repS (Str.ofString "z") 1).length = 1 := rfl
    (simp (disch := first | omega | assumption | rfl | (simp only [List.length_cons, List.length_nil, List.length_map, List.length_append, len_appS]; omega)) only [evA, evC, Nat.reduceAdd, Nat.reduceSub, Int.reduceLT, Int.reduceLE, Int.reduceNeg, Int.reduceToNat, Int.reducePow, Int.reduceAdd, Int.reduceMul, Int.reduceEq, Int.reduceSub, reduceIte, reduceCtorEq])
    unfold nameS nameL
    rw [if_pos hc, stem, one_mk, ez, repS_mk, mkS_app, mkS_app]
    rfl
  · simp only [hc, decide_false, Bool.false_eq_true, if_false]
    have l5 : (repS (Str.ofString "z") 0).length = 0 := rfl
    (simp (disch := first | omega | assumption | rfl | (simp only [List.length_cons, List.length_nil, List.length_map, List.length_append, len_appS]; omega)) only [evA, evC, Nat.reduceAdd, Nat.reduceSub, Int.reduceLT, Int.reduceLE, Int.reduceNeg, Int.reduceToNat, Int.reducePow, Int.reduceAdd, Int.reduceMul, Int.reduceEq, Int.reduceSub, reduceIte, reduceCtorEq])
    unfold nameS nameL
    rw [if_neg hc, stem, one_mk, ez, repS_mk, mkS_app, mkS_app]
    rfl
theorem nameS_len (c k : Int) : 1 ≤ (nameS c k).length ∧ (nameS c k).length ≤ 8 := by
  rw [nameS, mkS_len]; exact nameL_len c k
theorem nameS_low (c k : Int) : ∀ x ∈ (nameS c k).cps.toList, 97 ≤ x ∧ x ≤ 122 := by
  rw [nameS, mkS_cps]; exact nameL_low c k


end K11

namespace K11
open PySem JM L2
/-! ### names and numbers: what is asked -/
def kept : List Str := ["face", "unit", "take", "from", "word", "deed", "with", "own", "do", "done", "let", "be", "if", "then", "else", "while", "give", "tell", "get", "new", "hand", "to", "await", "call", "and", "end"]
def lowB (z : Str) : Bool := z.cps.toList.all fun c => decide (c ∈ lets.cps.toList)
def nameZ (z : Str) : Bool := !decide (z.length = 0) && !decide (8 < z.length) && !decide (z ∈ kept) && lowB z
def nameB : F → Bool
  | .str z => nameZ z
  | _ => false
def numB : F → Bool
  | .int i => decide (-999999 ≤ i) && decide (i ≤ 999999)
  | _ => false
theorem split_kept (s : Sto) : bm (.split false) (.f (.str ((Str.ofString "face unit take from word deed with own do done let be if then else while give tell get new hand to") ++ (Str.ofString " await call and end")))) [.f (.str " ")] s = .ok (.f (.lst (kept.map F.str))) s := by
  have e : Txt.split ((Str.ofString "face unit take from word deed with own do done let be if then else while give tell get new hand to") ++ (Str.ofString " await call and end")) " " = kept := by decide +kernel
  have c : (((" " : Str).length == 0) = false ∧ ((Str.ofString "face unit take from word deed with own do done let be if then else while give tell get new hand to") ++ (Str.ofString " await call and end")).length + 2 ≤ sizeLine ∧ (kept.all fun x => decide (x.length ≤ sizeLine) && PyData.strOk x) = true) := by
    rw [sizeLine_eq]; decide +kernel
  unfold bm
  simp only [e, c, and_self, if_true]
  have : (kept.map fun x => D.f (.str x)) = (kept.map F.str).map D.f := by rw [List.map_map]; rfl
  rw [this, c_newL _ (by decide)]
theorem lets_find : ∀ c ∈ lets.cps.toList, 0 ≤ Txt.find lets (one c) := by decide +kernel
theorem low_filter (z : Str) : (z.cps.toList.filterMap fun c => if Txt.find lets (one c) < 0 then some (F.str (one c)) else none).isEmpty = lowB z := by
  have h : ∀ l : List Nat, (l.filterMap fun c => if Txt.find lets (one c) < 0 then some (F.str (one c)) else none).isEmpty = l.all fun c => decide (c ∈ lets.cps.toList) := by
    intro l
    induction l with
    | nil => rfl
    | cons c l ih =>
      have := find_lt (c := c) lets_find
      by_cases hc : c ∈ lets.cps.toList
      · simp only [hc, decide_true, Bool.not_true, decide_eq_false_iff_not] at this
        simp only [List.filterMap_cons, this, if_false, List.all_cons, hc, decide_true, Bool.true_and]
        exact ih
      · simp only [hc, decide_false, Bool.not_false, decide_eq_true_eq] at this
        simp only [List.filterMap_cons, this, if_true, List.isEmpty_cons, List.all_cons, hc, decide_false, Bool.false_and]
  exact h _
theorem dats_strs : ∀ l : List F, (∀ x ∈ l, ∃ z, x = .str z) → F.dats l = true
  | [], _ => rfl
  | x :: l, h => by
    obtain ⟨z, hz⟩ := h x (by simp)
    subst hz
    show (true && F.dats l) = true
    rw [dats_strs l fun y hy => h y (by simp [hy])]; rfl

end K11

namespace K11
open PySem JM L2
/-! ### odd things; things that are changed -/
mutual
/-- data as a script's things are: no dict, no tuple of the module -/
def Ot : F → Bool
  | .non => true | .bl _ => true | .int _ => true | .str _ => true
  | .tup l => decide (l.length ≤ 4000000) && Ots l | .lst l => decide (l.length ≤ 4000000) && Ots l
  | .ktup _ => false | .scr _ => false | .dct _ => false
def Ots : List F → Bool
  | [] => true
  | x :: l => Ot x && Ots l
end
theorem Ots_iff : ∀ {l : List F}, Ots l = true ↔ ∀ x ∈ l, Ot x = true
  | [] => by simp [Ots]
  | x :: l => by simp [Ots, Ots_iff (l := l)]
theorem Ot.tupE {l : List F} (h : Ot (.tup l) = true) : ∀ x ∈ l, Ot x = true := by
  simp only [Ot, Bool.and_eq_true] at h
  exact Ots_iff.mp h.2
theorem Ot.len {l : List F} (h : Ot (.tup l) = true) : l.length ≤ 4000000 := by
  simp only [Ot, Bool.and_eq_true, decide_eq_true_eq] at h
  exact h.1
theorem Ot.mk {l : List F} (h : l.length ≤ 4000000) (k : ∀ x ∈ l, Ot x = true) : Ot (.tup l) = true := by
  simp only [Ot, Bool.and_eq_true, decide_eq_true_eq]
  exact ⟨h, Ots_iff.mpr k⟩
theorem Ot.mkL {l : List F} (h : l.length ≤ 4000000) (k : ∀ x ∈ l, Ot x = true) : Ot (.lst l) = true := by
  simp only [Ot, Bool.and_eq_true, decide_eq_true_eq]
  exact ⟨h, Ots_iff.mpr k⟩
theorem Ot.plain {x : F} (h : Ot x = true) : plainF x = true := by
  cases x <;> first | rfl | cases h
mutual
/-- what is built: numbers, texts of signs below 128, tuples of them -/
def Pl : F → Bool
  | .int i => decide (-1000000000 < i) && decide (i < 1000000000)
  | .str z => (z.cps.toList.all fun c => decide (c < 128)) && decide (z.length ≤ 200)
  | .tup l => decide (l.length ≤ 200) && Pls l
  | _ => false
def Pls : List F → Bool
  | [] => true
  | x :: l => Pl x && Pls l
end
theorem Pls_iff : ∀ {l : List F}, Pls l = true ↔ ∀ x ∈ l, Pl x = true
  | [] => by simp [Pls]
  | x :: l => by simp [Pls, Pls_iff (l := l)]
theorem Pl.plain {x : F} (h : Pl x = true) : plainF x = true := by
  cases x <;> first | rfl | (simp [Pl] at h; done)
mutual
theorem Pl.ot : ∀ {x : F}, Pl x = true → Ot x = true
  | .int _, _ => rfl
  | .str _, _ => rfl
  | .tup l, h => by
    simp only [Pl, Bool.and_eq_true, decide_eq_true_eq] at h
    simp only [Ot, Bool.and_eq_true, decide_eq_true_eq]
    exact ⟨by omega, Pls.ot h.2⟩
  | .non, h => by simp [Pl] at h
  | .bl _, h => by simp [Pl] at h
  | .lst _, h => by simp [Pl] at h
  | .ktup _, h => by simp [Pl] at h
  | .scr _, h => by simp [Pl] at h
  | .dct _, h => by simp [Pl] at h
theorem Pls.ot : ∀ {l : List F}, Pls l = true → Ots l = true
  | [], _ => rfl
  | x :: l, h => by
    simp only [Pls, Bool.and_eq_true] at h
    simp only [Ots, Bool.and_eq_true]
    exact ⟨Pl.ot h.1, Pls.ot h.2⟩
end
def oddL : List F := [.int (-1), .int 0, .int 1, .int 4, .int 5, .int 1000000, .int (-1000000), .bl true, .bl false, .non, .str "", .str "a", .str "A", .str "end", .str "abcdefghi", .str "a b",
  .tup [], .lst [], .tup [.str "a"], .tup [.str "number", .int 1], .tup [.str "name", .str "a"], .tup [.str "get", .str "a"], .tup [.str "deed", .str "a"], .str "number", .str "ab1"]
def oddF (c : Int) : F := oddL.getD (c.fmod 25).toNat .non
theorem odd_ot (c : Int) : Ot (oddF c) = true := by
  have h : ∀ j : Fin 25, Ot (oddL.getD j.1 .non) = true := by decide +kernel
  exact h ⟨(c.fmod 25).toNat, by have := fm_lo c 25 (by decide); have := fm_hi c 25 (by decide); omega⟩

end K11

namespace K11
open PySem JM L2
/-! ### parts of lists -/
theorem at_last {α : Type} (l : List α) (x : α) : atI (l ++ [x]) (-1) = some x := by
  have e : ixN (l ++ [x]).length (-1) = some l.length := by
    rw [List.length_append, List.length_singleton]
    unfold ixN
    rw [if_neg (by decide)]
    split
    · rename_i h
      congr 1
      omega
    · rename_i h
      exact absurd h (by omega)
  unfold atI
  rw [e]
  simp
theorem cut_take {α : Type} (l : List α) (k : Nat) (h : k ≤ l.length) : cutL l none (some (k : Int)) = l.take k := by
  unfold cutL
  rw [HT.sIx_none, HT.sIx_nat, Nat.min_eq_left h]
  simp
theorem cut_take2 {α : Type} (l : List α) (k : Nat) : cutL l none (some (k : Int)) = l.take k := by
  by_cases h : k ≤ l.length
  · exact cut_take l k h
  · unfold cutL
    rw [HT.sIx_none, HT.sIx_nat, Nat.min_eq_right (by omega), List.take_of_length_le (by omega : l.length ≤ k)]
    simp
theorem cut_drop {α : Type} (l : List α) (k : Nat) (h : k ≤ l.length) : cutL l (some (k : Int)) none = l.drop k := by
  unfold cutL
  rw [HT.sIx_none, HT.sIx_nat, Nat.min_eq_left h, List.take_of_length_le (by rw [List.length_drop]; omega)]
theorem ite_no {call mk : Nat → List D → Sto → JM.R D} {sub : Nat → Nat → Bool} {env : List (Option D)} {s : Sto} {c : E} {a l : List S} (h : evE call mk c env s = .ok (.f (.bl false)) s) : exSs call mk sub (.ite c a [] :: l) env s = exSs call mk sub l env s := by
  rw [z_cons, z_ite, h, R.go_ok, z_nil, O.bind_nx]
theorem ite_yes {call mk : Nat → List D → Sto → JM.R D} {sub : Nat → Nat → Bool} {env : List (Option D)} {s s' : Sto} {c : E} {d : D} {a b l : List S} (h : evE call mk c env s = .ok (.f (.bl true)) s) (ha : exSs call mk sub a env s = .rt d s') : exSs call mk sub (.ite c a b :: l) env s = .rt d s' := by
  rw [z_cons, z_ite, h, R.go_ok, ha, O.bind_rt]
theorem ite_go {call mk : Nat → List D → Sto → JM.R D} {sub : Nat → Nat → Bool} {env env' : List (Option D)} {s s' : Sto} {c : E} {a b l : List S} (h : evE call mk c env s = .ok (.f (.bl true)) s) (ha : exSs call mk sub a env s = .nx env' s') : exSs call mk sub (.ite c a b :: l) env s = exSs call mk sub l env' s' := by
  rw [z_cons, z_ite, h, R.go_ok, ha, O.bind_nx]
theorem set_go {call mk : Nat → List D → Sto → JM.R D} {sub : Nat → Nat → Bool} {env : List (Option D)} {s s' : Sto} {i : Nat} {e : E} {d : D} {l : List S} (h : evE call mk e env s = .ok d s') : exSs call mk sub (.set i e :: l) env s = exSs call mk sub l (env.set i (some d)) s' := by
  rw [z_cons, z_set, h, R.go_ok, O.bind_nx]
theorem ret_go {call mk : Nat → List D → Sto → JM.R D} {sub : Nat → Nat → Bool} {env : List (Option D)} {s s' : Sto} {e : E} {d : D} {l : List S} (h : evE call mk e env s = .ok d s') : exSs call mk sub (.ret e :: l) env s = .rt d s' := by
  rw [z_cons, z_ret, h, R.go_ok, O.bind_rt]
theorem set_st {call mk : Nat → List D → Sto → JM.R D} {sub : Nat → Nat → Bool} {env : List (Option D)} {s : Sto} {i : Nat} {e : E} (d : D) {l : List S} {r : O} (h : evE call mk e env s = .ok d s) (k : exSs call mk sub l (env.set i (some d)) s = r) : exSs call mk sub (.set i e :: l) env s = r := by
  rw [set_go h, k]
theorem no_st {call mk : Nat → List D → Sto → JM.R D} {sub : Nat → Nat → Bool} {env : List (Option D)} {s : Sto} {c : E} {a l : List S} {r : O} (h : evE call mk c env s = .ok (.f (.bl false)) s) (k : exSs call mk sub l env s = r) : exSs call mk sub (.ite c a [] :: l) env s = r := by
  rw [ite_no h, k]
theorem go_st {call mk : Nat → List D → Sto → JM.R D} {sub : Nat → Nat → Bool} {env : List (Option D)} (env' : List (Option D)) {s : Sto} (s' : Sto) {c : E} {a b l : List S} {r : O} (h : evE call mk c env s = .ok (.f (.bl true)) s) (ha : exSs call mk sub a env s = .nx env' s') (k : exSs call mk sub l env' s' = r) : exSs call mk sub (.ite c a b :: l) env s = r := by
  rw [ite_go h ha, k]
theorem run_st {call mk : Nat → List D → Sto → JM.R D} {sub : Nat → Nat → Bool} {env : List (Option D)} (env' : List (Option D)) {s : Sto} (s' : Sto) {x : S} {l : List S} {r : O} (h : exS call mk sub x env s = .nx env' s') (k : exSs call mk sub l env' s' = r) : exSs call mk sub (x :: l) env s = r := by
  rw [z_cons, h, O.bind_nx, k]


end K11

namespace K11
open PySem JM L2
/-! ### expressions: what is asked -/
def signs : List Str := ["+", "-", "*", "<", "="]
def exprB : Nat → F → Bool
  | 0, _ => false
  | k + 1, x => (match x with
    | .tup (.str t :: r) =>
      if t = Str.ofString "number" then (match r with | [a] => numB a | _ => false)
      else if t = Str.ofString "name" then (match r with | [a] => nameB a | _ => false)
      else if t = Str.ofString "call" then (match r with | [a, b] => nameB a && (match b with | .tup l => decide (l.length ≤ 4) && l.all (exprB k) | _ => false) | _ => false)
      else if t ∈ signs then (match r with | [a, b] => exprB k a && exprB k b | _ => false)
      else false
    | _ => false)
def partsB (k : Nat) : F → Bool
  | .tup l => decide (l.length ≤ 4) && l.all (exprB k)
  | _ => false
mutual
theorem Ot.dat : ∀ {x : F}, Ot x = true → F.dat x = true
  | .non, _ => rfl | .bl _, _ => rfl | .int _, _ => rfl | .str _, _ => rfl
  | .tup l, h => by simp only [Ot, Bool.and_eq_true] at h; simp only [F.dat]; exact Ots.dat h.2
  | .lst l, h => by simp only [Ot, Bool.and_eq_true] at h; simp only [F.dat]; exact Ots.dat h.2
  | .ktup _, h => by cases h
  | .scr _, h => by cases h
  | .dct _, h => by cases h
theorem Ots.dat : ∀ {l : List F}, Ots l = true → F.dats l = true
  | [], _ => rfl
  | x :: l, h => by
    simp only [Ots, Bool.and_eq_true] at h
    simp only [F.dats, Bool.and_eq_true]
    exact ⟨Ot.dat h.1, Ots.dat h.2⟩
end
theorem all_map (l : List F) (f : F → Bool) (s : Sto) : bi .all [.f (.lst (l.map fun x => F.bl (f x)))] s = .ok (.f (.bl (l.all f))) s := by
  have := all_lst (l.map f) s
  rw [List.map_map] at this
  have e : (F.bl ∘ f) = fun x => F.bl (f x) := rfl
  rw [e] at this
  rw [this, List.all_map]
  rfl

end K11

namespace K11
open PySem JM L2
def nilB (b : Bool) : List F → Bool
  | [] => b | _ => false
def oneB (f : F → Bool) : List F → Bool
  | [c] => f c | _ => false
theorem sign_in (t : Str) (s : Sto) : cIn (.f (.str t)) (.f (.ktup [(.str "+"), (.str "-"), (.str "*"), (.str "<"), (.str "=")])) s = .ok (.f (.bl (decide (t ∈ signs)))) s := e_inK t signs s
theorem tru (k : Nat) (hk : k + 1 ≤ 13) : ((13 : Int) - ((k + 1 : Nat) : Int)) + 1 = 13 - (k : Int) := by omega

end K11

namespace K11
open PySem JM L2
/-! ### the law's own -/
def twoB (f : F → F → Bool) : List F → Bool
  | [b, c] => f b c | _ => false
theorem expr_cons (k : Nat) (t : Str) (r : List F) : exprB (k + 1) (.tup (.str t :: r)) = (if t = Str.ofString "number" then oneB numB r else if t = Str.ofString "name" then oneB nameB r else if t = Str.ofString "call" then twoB (fun b c => nameB b && partsB k c) r
    else if t ∈ signs then twoB (fun b c => exprB k b && exprB k c) r else false) := by
  simp only [exprB]
  split
  · match r with
    | [] => rfl
    | [a] => rfl
    | a :: b :: r => rfl
  · split
    · match r with
      | [] => rfl
      | [a] => rfl
      | a :: b :: r => rfl
    · split
      · match r with
        | [] => rfl
        | [a] => rfl
        | [a, b] => cases b <;> rfl
        | a :: b :: c :: r => rfl
      · split
        · match r with
          | [] => rfl
          | [a] => rfl
          | [a, b] => rfl
          | a :: b :: c :: r => rfl
        · rfl
abbrev sgs : Str := "+-*<="
theorem sgs_find : ∀ c ∈ sgs.cps.toList, 0 ≤ Txt.find sgs (one c) := by decide +kernel
theorem sgs_mem (c : Nat) : (one c ∈ signs) ↔ c ∈ sgs.cps.toList := by
  have e : sgs.cps.toList = [43, 45, 42, 60, 61] := by decide +kernel
  have e2 : signs = [one 43, one 45, one 42, one 60, one 61] := by decide +kernel
  rw [e, e2]
  simp only [List.mem_cons, List.not_mem_nil, or_false, one_mk, mkS_inj, List.cons.injEq, and_true]
theorem one_of {t : Str} (h : t.length = 1) : ∃ c, t = one c := by
  rw [len_cps] at h
  match e : t.cps.toList, h with
  | [c], _ => exact ⟨c, by rw [one_mk, ← e, mkS_eta]⟩
theorem sgn1 {t : Str} (h : t.length = 1) : decide (Txt.find sgs t < 0) = !decide (t ∈ signs) := by
  obtain ⟨c, rfl⟩ := one_of h
  rw [find_lt sgs_find]
  congr 1
  exact decide_eq_decide.mpr (sgs_mem c).symm
theorem sgn0 {t : Str} (h : ¬ t.length = 1) : decide (t ∈ signs) = false := by
  have : ∀ x ∈ signs, x.length = 1 := by decide +kernel
  simpa using fun z => h (this t z)

end K11

namespace K11
open PySem JM L2
/-! ### expressions that are built -/
def valI (c : Int) : Int := if c.fmod 9 = 4 then (c.fdiv 9).fmod 1999999 - 999999 else (c.fdiv 9).fmod 14 - 4
theorem valI_bd (c : Int) : -1000000 < valI c ∧ valI c < 1000000 := by
  unfold valI
  have := fm_lo (c.fdiv 9) 1999999 (by decide)
  have := fm_hi (c.fdiv 9) 1999999 (by decide)
  have := fm_lo (c.fdiv 9) 14 (by decide)
  have := fm_hi (c.fdiv 9) 14 (by decide)
  split <;> omega
theorem o_value {n : Nat} (h : 1 ≤ n) (c : Int) (s : Sto) : callF T n i__law_value [.f (.int c)] s = .ok (.f (.int (valI c))) s := by
  obtain ⟨n, rfl⟩ : ∃ m, n = m + 1 := ⟨n - 1, by omega⟩
  rw [call_eq (F := F__law_value) rfl rfl]
  simp only [B__law_value]
  unfold valI
  by_cases h4 : c.fmod 9 = 4
  · (simp (disch := first | omega | assumption | rfl | (simp only [List.length_cons, List.length_nil, List.length_map, List.length_append, len_appS]; omega)) only [evA, evC, Nat.reduceAdd, Nat.reduceSub, Int.reduceLT, Int.reduceLE, Int.reduceNeg, Int.reduceToNat, Int.reducePow, Int.reduceAdd, Int.reduceMul, Int.reduceEq, Int.reduceSub, reduceIte, reduceCtorEq, *])
  · rw [if_neg h4]
    have e : decide (c.fmod 9 = 4) = false := by simpa using h4
    clear h4
    (simp (disch := first | omega | assumption | rfl | (simp only [List.length_cons, List.length_nil, List.length_map, List.length_append, len_appS]; omega)) only [evA, evC, Nat.reduceAdd, Nat.reduceSub, Int.reduceLT, Int.reduceLE, Int.reduceNeg, Int.reduceToNat, Int.reducePow, Int.reduceAdd, Int.reduceMul, Int.reduceEq, Int.reduceSub, reduceIte, reduceCtorEq, *])
theorem sgs_len : sgs.cps.toList.length = 5 := by decide +kernel
theorem sgs_asc : ∀ c ∈ sgs.cps.toList, c < 128 := by decide +kernel
theorem sgs_at {k : Int} (h : 0 ≤ k) (h2 : k < 5) : ∃ c, atI sgs.cps.toList k = some c ∧ c ∈ sgs.cps.toList := by
  obtain ⟨v, a, b⟩ := atI_mod sgs.cps.toList k h (by rw [sgs_len]; exact h2)
  exact ⟨v, a, List.mem_of_getElem? b⟩
theorem one_pl {c : Nat} (h : c < 128) : Pl (.str (one c)) = true := by
  simp only [Pl, Bool.and_eq_true, decide_eq_true_eq, List.all_eq_true]
  exact ⟨fun d hd => by rw [one_mk, mkS_cps] at hd; simp at hd; omega, (show 1 ≤ 200 by decide)⟩
theorem Pl2 {a b : F} (h : Pl a = true) (k : Pl b = true) : Pl (.tup [a, b]) = true := by
  simp only [Pl, Pls, h, k, List.length_cons, List.length_nil]; rfl
theorem Pl3 {a b c : F} (h : Pl a = true) (k : Pl b = true) (l : Pl c = true) : Pl (.tup [a, b, c]) = true := by
  simp only [Pl, Pls, h, k, l, List.length_cons, List.length_nil]; rfl
/-- a name that is good -/
def Pn (z : Str) : Prop := Pl (.str z) = true ∧ nameZ z = true
/-- names, deeds' heads -/
def Nms (l : List F) : Prop := 0 < l.length ∧ l.length ≤ 1000 ∧ ∀ x ∈ l, ∃ z, x = .str z ∧ Pn z
def Dds (l : List F) : Prop := l.length ≤ 1000 ∧ ∀ x ∈ l, ∃ z c, x = .tup [.str z, .int c] ∧ Pn z ∧ 0 ≤ c ∧ c ≤ 4
theorem Pl_tup {l : List F} (h : l.length ≤ 200) (k : ∀ x ∈ l, Pl x = true) : Pl (.tup l) = true := by
  simp only [Pl, Bool.and_eq_true, decide_eq_true_eq]
  exact ⟨h, Pls_iff.mpr k⟩
theorem Pl_int {i : Int} (h : -1000000000 < i ∧ i < 1000000000) : Pl (.int i) = true := by
  simp only [Pl, Bool.and_eq_true, decide_eq_true_eq]
  exact h
/-- expressions that the law builds, d deep at most -/
inductive Xp (nm dd : List F) : Nat → F → Prop where
  | num (d : Nat) (i : Int) (h : -1000000 < i ∧ i < 1000000) : Xp nm dd d (.tup [.str "number", .int i])
  | nam (d : Nat) (z : Str) (h : .str z ∈ nm) : Xp nm dd (d + 1) (.tup [.str "name", .str z])
  | call (d : Nat) (z : Str) (cnt : Int) (l : List F) (h : .tup [.str z, .int cnt] ∈ dd) (hl : ((l.length : Nat) : Int) = cnt) (hx : ∀ x ∈ l, Xp nm dd d x) : Xp nm dd (d + 1) (.tup [.str "call", .str z, .tup l])
  | op (d : Nat) (t : Str) (a b : F) (h : t ∈ signs) (ha : Xp nm dd d a) (hb : Xp nm dd d b) : Xp nm dd (d + 1) (.tup [.str t, a, b])
theorem sgs_one : ∀ c ∈ sgs.cps.toList, one c ∈ signs := by decide +kernel
theorem o_expr (nm dd : List F) (hN : Nms nm) (hD : Dds dd) : ∀ (d : Nat) {n : Nat}, d + 3 ≤ n → ∀ (c : Int), 0 ≤ c → ∃ y, Xp nm dd d y ∧ ∀ s, callF T n i__law_expression [.f (.int c), .f (.lst nm), .f (.lst dd), .f (.int d)] s = .ok (.f y) s := by
  intro d
  induction d with
  | zero =>
    intro n hn c hc
    obtain ⟨n, rfl⟩ : ∃ m, n = m + 1 := ⟨n - 1, by omega⟩
    refine ⟨.tup [.str "number", .int (valI (c.fdiv 9))], .num _ _ (valI_bd _), fun s => ?_⟩
    rw [call_eq (F := F__law_expression) rfl rfl]
    simp only [B__law_expression]
    have hv := fun s => o_value (n := n) (by omega) (c.fdiv 9) s
    have e0 : ((0 : Nat) : Int) = 0 := rfl
    rw [e0]
    clear hN hD
    (simp (disch := first | omega | assumption | rfl | (simp only [List.length_cons, List.length_nil, List.length_map, List.length_append, len_appS]; omega)) only [evA, evC, Nat.reduceAdd, Nat.reduceSub, Int.reduceLT, Int.reduceLE, Int.reduceNeg, Int.reduceToNat, Int.reducePow, Int.reduceAdd, Int.reduceMul, Int.reduceEq, Int.reduceSub, reduceIte, reduceCtorEq, *])
  | succ d ih =>
    intro n hn c hc
    obtain ⟨n, rfl⟩ : ∃ m, n = m + 1 := ⟨n - 1, by omega⟩
    have k1 := fm_lo c 9 (by decide)
    have k2 := fm_hi c 9 (by decide)
    have hv := fun s => o_value (n := n) (by omega) (c.fdiv 9) s
    have ed : ((d + 1 : Nat) : Int) - 1 = (d : Nat) := by omega
    have ed0 : decide (((d + 1 : Nat) : Int) = 0) = false := by simp; omega
    generalize ((d + 1 : Nat) : Int) = dz at *
    by_cases h1 : c.fmod 9 < 2
    · refine ⟨.tup [.str "number", .int (valI (c.fdiv 9))], .num _ _ (valI_bd _), fun s => ?_⟩
      rw [call_eq (F := F__law_expression) rfl rfl]
      simp only [B__law_expression]
      clear hN hD ih
      (simp (disch := first | omega | assumption | rfl | (simp only [List.length_cons, List.length_nil, List.length_map, List.length_append, len_appS]; omega)) only [evA, evC, Nat.reduceAdd, Nat.reduceSub, Int.reduceLT, Int.reduceLE, Int.reduceNeg, Int.reduceToNat, Int.reducePow, Int.reduceAdd, Int.reduceMul, Int.reduceEq, Int.reduceSub, reduceIte, reduceCtorEq, *])
    · by_cases h2 : c.fmod 9 < 5
      · obtain ⟨n1, n2, n3⟩ := hN
        have m1 := fm_lo (c.fdiv 9) nm.length (by omega)
        have m2 := fm_hi (c.fdiv 9) nm.length (by omega)
        obtain ⟨v, hv1, hv2⟩ := atI_mod nm _ m1 m2
        obtain ⟨z, rfl, hz⟩ := n3 v (List.mem_of_getElem? hv2)
        refine ⟨.tup [.str "name", .str z], .nam _ _ (List.mem_of_getElem? hv2), fun s => ?_⟩
        rw [call_eq (F := F__law_expression) rfl rfl]
        simp only [B__law_expression]
        clear hD ih n3 hv2 hz
        (simp (disch := first | omega | assumption | rfl | (simp only [List.length_cons, List.length_nil, List.length_map, List.length_append, len_appS]; omega)) only [evA, evC, Nat.reduceAdd, Nat.reduceSub, Int.reduceLT, Int.reduceLE, Int.reduceNeg, Int.reduceToNat, Int.reducePow, Int.reduceAdd, Int.reduceMul, Int.reduceEq, Int.reduceSub, reduceIte, reduceCtorEq, *])
      · have dr := fun (k : Int) (hk : 0 ≤ k ∧ k < 1000) s => o_drawn (n := n) (by omega) c k hk s
        by_cases h3 : c.fmod 9 = 5 ∧ 0 < dd.length
        · obtain ⟨h3, h4⟩ := h3
          obtain ⟨d1, d2⟩ := hD
          have m1 := fm_lo (c.fdiv 9) dd.length (by omega)
          have m2 := fm_hi (c.fdiv 9) dd.length (by omega)
          obtain ⟨v, hv1, hv2⟩ := atI_mod dd _ m1 m2
          obtain ⟨z, cnt, rfl, hz, c1, c2⟩ := d2 v (List.mem_of_getElem? hv2)
          obtain ⟨g, hg⟩ := pickF (l := List.range cnt.toNat) (Q := fun j y => Xp nm dd d y ∧ ∀ s, callF T n i__law_expression [.f (.int (drw c (j : Nat))), .f (.lst nm), .f (.lst dd), .f (.int d)] s = .ok (.f y) s) fun j hj => ih (by omega) _ (drw_lo _ _)
          refine ⟨.tup [.str "call", .str z, .tup ((List.range cnt.toNat).map g)], .call _ _ cnt _ (List.mem_of_getElem? hv2) (by rw [List.length_map, List.length_range]; omega) fun x hx => by
              obtain ⟨j, hj, rfl⟩ := List.mem_map.mp hx
              exact (hg j hj).1, fun s => ?_⟩
          have lc := lc_map (call := callF T n) (mk := callM T n) (env := [some (.f (.int c)), some (.f (.lst nm)), some (.f (.lst dd)), some (.f (.int dz)), some (.f (.int (c.fmod 9))), some (.f (.str z)), some (.f (.int cnt)), none, none, none, none]) (s := s) (it := .rng1 (.v 6)) (p := .one 8) (c := none) (e := .call i__law_expression [.call i__law_drawn [.v 0, .v 8], .v 1, .v 2, .bin .sub (.v 3) (.k (.int 1))])
            (l := List.range cnt.toNat) (h := fun (j : Nat) => .f (.int (0 + (j : Nat)))) (g := fun x => some (g x)) (by clear ih hg hN d2 hv; (simp (disch := first | omega | assumption | rfl | (simp only [List.length_cons, List.length_nil, List.length_map, List.length_append, len_appS]; omega)) only [evA, evC, Nat.reduceAdd, Nat.reduceSub, Int.reduceLT, Int.reduceLE, Int.reduceNeg, Int.reduceToNat, Int.reducePow, Int.reduceAdd, Int.reduceMul, Int.reduceEq, Int.reduceSub, reduceIte, reduceCtorEq, *]); rfl)
            (fun j hj => ⟨_, rfl, by
              have q := (hg j hj).2
              have hj' := List.mem_range.mp hj
              clear hg ih hN d2 hv
              refine turn_none ?_
              simp only [Int.zero_add]
              (simp (disch := first | omega | assumption | rfl | (simp only [List.length_cons, List.length_nil, List.length_map, List.length_append, len_appS]; omega)) only [evA, evC, Nat.reduceAdd, Nat.reduceSub, Int.reduceLT, Int.reduceLE, Int.reduceNeg, Int.reduceToNat, Int.reducePow, Int.reduceAdd, Int.reduceMul, Int.reduceEq, Int.reduceSub, reduceIte, reduceCtorEq, *])⟩) (by rw [List.length_range]; omega)
          rw [fm_some, h3] at lc
          have ll : ((List.range cnt.toNat).map g).length ≤ 16777216 := by rw [List.length_map, List.length_range]; omega
          rw [call_eq (F := F__law_expression) rfl rfl]
          simp only [B__law_expression]
          clear ih hg hN d2 hv hv2 hz dr
          (simp (disch := first | omega | assumption | rfl | (simp only [List.length_cons, List.length_nil, List.length_map, List.length_append, len_appS]; omega)) only [evA, evC, Nat.reduceAdd, Nat.reduceSub, Int.reduceLT, Int.reduceLE, Int.reduceNeg, Int.reduceToNat, Int.reducePow, Int.reduceAdd, Int.reduceMul, Int.reduceEq, Int.reduceSub, reduceIte, reduceCtorEq, *])
        · have d5 := dr 5 (by omega)
          have d6 := dr 6 (by omega)
          obtain ⟨y1, p1, q1⟩ := ih (n := n) (by omega) (drw c 5) (drw_lo _ _)
          obtain ⟨y2, p2, q2⟩ := ih (n := n) (by omega) (drw c 6) (drw_lo _ _)
          have m1 := fm_lo (c.fdiv 9) 5 (by decide)
          have m2 := fm_hi (c.fdiv 9) 5 (by decide)
          obtain ⟨g, hg1, hg2⟩ := sgs_at m1 m2
          refine ⟨.tup [.str (one g), y1, y2], .op _ _ _ _ (sgs_one g hg2) p1 p2, fun s => ?_⟩
          rw [call_eq (F := F__law_expression) rfl rfl]
          simp only [B__law_expression]
          clear ih hN hD hv dr hg2
          by_cases h5 : c.fmod 9 = 5
          · have h6 : ¬ 0 < ((dd.length : Nat) : Int) := fun z => h3 ⟨h5, by omega⟩
            clear h3
            (simp (disch := first | omega | assumption | rfl | (simp only [List.length_cons, List.length_nil, List.length_map, List.length_append, len_appS]; omega)) only [evA, evC, Nat.reduceAdd, Nat.reduceSub, Int.reduceLT, Int.reduceLE, Int.reduceNeg, Int.reduceToNat, Int.reducePow, Int.reduceAdd, Int.reduceMul, Int.reduceEq, Int.reduceSub, reduceIte, reduceCtorEq, *])
          · clear h3
            (simp (disch := first | omega | assumption | rfl | (simp only [List.length_cons, List.length_nil, List.length_map, List.length_append, len_appS]; omega)) only [evA, evC, Nat.reduceAdd, Nat.reduceSub, Int.reduceLT, Int.reduceLE, Int.reduceNeg, Int.reduceToNat, Int.reducePow, Int.reduceAdd, Int.reduceMul, Int.reduceEq, Int.reduceSub, reduceIte, reduceCtorEq, *])


end K11

namespace K11
open PySem JM L2
/-! ### statements that are built -/
def Pln (l : List F) : Prop := l.length ≤ 1000 ∧ ∀ x ∈ l, ∃ z, x = .str z ∧ Pn z
theorem at_pick {l : List F} (c : Int) (h : 0 < l.length) : ∃ v, atI l (c.fmod (l.length : Nat)) = some v ∧ v ∈ l := by
  obtain ⟨v, h1, h2⟩ := atI_mod l _ (fm_lo c l.length (by omega)) (fm_hi c l.length (by omega))
  exact ⟨v, h1, List.mem_of_getElem? h2⟩
/-- statements that the law builds -/
inductive Sm (nm dd pl : List F) : Nat → F → Prop where
  | lt (d : Nat) (z : Str) (e : F) (h : .str z ∈ nm) (he : Xp nm dd 2 e) : Sm nm dd pl d (.tup [.str "let", .str z, e])
  | tell (d : Nat) (e : F) (he : Xp nm dd 2 e) : Sm nm dd pl d (.tup [.str "tell", e])
  | get (d : Nat) (z : Str) (h : .str z ∈ nm) : Sm nm dd pl d (.tup [.str "get", .str z])
  | give (d : Nat) (e : F) (he : Xp nm dd 2 e) : Sm nm dd pl d (.tup [.str "give", e])
  | new (d : Nat) (z : Str) (w : F) (h : .str z ∈ nm) (hw : w ∈ pl) : Sm nm dd pl d (.tup [.str "new", .str z, w])
  | hand (d : Nat) (z : Str) (e : F) (h : .str z ∈ nm) (he : Xp nm dd 2 e) : Sm nm dd pl d (.tup [.str "hand", .str z, e])
  | await (d : Nat) (z y : Str) (h : .str z ∈ nm) (k : .str y ∈ nm) : Sm nm dd pl d (.tup [.str "await", .str z, .str y])
  | do_ (d : Nat) (z : Str) (cnt : Int) (l : List F) (h : .tup [.str z, .int cnt] ∈ dd) (hl : ((l.length : Nat) : Int) = cnt) (hx : ∀ x ∈ l, Xp nm dd 1 x) : Sm nm dd pl d (.tup [.str "do", .str z, .tup l])
  | whl (d : Nat) (e : F) (l : List F) (he : Xp nm dd 2 e) (hl : l.length ≤ 3) (hx : ∀ x ∈ l, Sm nm dd pl d x) : Sm nm dd pl (d + 1) (.tup [.str "while", e, .tup l])
  | cnt (d : Nat) (z : Str) (i : Int) (l : List F) (h : .str z ∈ nm) (hi : 0 ≤ i ∧ i < 9) (hl : l.length ≤ 3) (hx : ∀ x ∈ l, Sm nm dd pl d x) :
    Sm nm dd pl (d + 1) (.tup [.str "while", .tup [.str "<", .tup [.str "name", .str z], .tup [.str "number", .int i]], .tup (l ++ [.tup [.str "let", .str z, .tup [.str "+", .tup [.str "name", .str z], .tup [.str "number", .int 1]]]])])
  | ite (d : Nat) (e : F) (l m : List F) (he : Xp nm dd 2 e) (hl : l.length ≤ 3) (hm : m.length ≤ 2) (hx : ∀ x ∈ l, Sm nm dd pl d x) (hy : ∀ x ∈ m, Sm nm dd pl d x) : Sm nm dd pl (d + 1) (.tup [.str "if", e, .tup l, .tup m])
theorem o_short (nm dd pl : List F) (hN : Nms nm) (hD : Dds dd) (hP : Pln pl) {n : Nat} (hn : 6 ≤ n) (c : Int) :
    ∃ y, (∀ d, Sm nm dd pl d y) ∧ ∀ s, callF T n i__law_short [.f (.int c), .f (.lst nm), .f (.lst dd), .f (.lst pl)] s = .ok (.f y) s := by
  obtain ⟨n, rfl⟩ : ∃ m, n = m + 1 := ⟨n - 1, by omega⟩
  have n1 := hN.1
  have k1 := fm_lo c 16 (by decide)
  have k2 := fm_hi c 16 (by decide)
  have dr := fun (k : Int) (hk : 0 ≤ k ∧ k < 1000) s => o_drawn (n := n) (by omega) c k hk s
  have d1 := dr 1 (by omega)
  obtain ⟨v, hv, vm⟩ := at_pick (l := nm) (c.fdiv 16) hN.1
  obtain ⟨z, rfl, hz⟩ := hN.2.2 v vm
  obtain ⟨y, hy, hc⟩ := o_expr nm dd hN hD 2 (n := n) (by omega) (drw c 1) (drw_lo _ _)
  have e2 : ((2 : Nat) : Int) = 2 := rfl
  rw [e2] at hc
  clear e2
  have tl : ∀ (P : Prop), P → (c.fmod 16 = 8 ∧ pl.length = 0) ∨ 12 ≤ c.fmod 16 → ∃ y, (∀ d, Sm nm dd pl d y) ∧ ∀ s, callF T (n + 1) i__law_short [.f (.int c), .f (.lst nm), .f (.lst dd), .f (.lst pl)] s = .ok (.f y) s := by
    intro _ _ hk
    by_cases hd : 0 < dd.length
    · obtain ⟨w, hw, wm⟩ := at_pick (l := dd) (c.fdiv 256) hd
      obtain ⟨z2, cnt, rfl, hz2, c1, c2⟩ := hD.2 w wm
      obtain ⟨g, hg⟩ := pickF (l := List.range cnt.toNat) (Q := fun j y => Xp nm dd 1 y ∧ ∀ s, callF T n i__law_expression [.f (.int (drw c ((j : Nat) + 2))), .f (.lst nm), .f (.lst dd), .f (.int 1)] s = .ok (.f y) s) fun j hj => by
        obtain ⟨y, a, b⟩ := o_expr nm dd hN hD 1 (n := n) (by omega) (drw c ((j : Nat) + 2)) (drw_lo _ _)
        exact ⟨y, a, b⟩
      refine ⟨.tup [.str "do", .str z2, .tup ((List.range cnt.toNat).map g)], fun d => .do_ d z2 cnt _ wm (by rw [List.length_map, List.length_range]; omega) fun x hx => by
          obtain ⟨j, hj, rfl⟩ := List.mem_map.mp hx
          exact (hg j hj).1, fun s => ?_⟩
      have lc := lc_map (call := callF T n) (mk := callM T n) (env := [some (.f (.int c)), some (.f (.lst nm)), some (.f (.lst dd)), some (.f (.lst pl)), some (.f (.str z)), some (.f y), some (.f (.int (c.fmod 16))), some (.f (.str z2)), some (.f (.int cnt)), none, none]) (s := s) (it := .rng1 (.v 8)) (p := .one 10) (c := none) (e := .call i__law_expression [(.call i__law_drawn [(.v 0), (.bin (.add false) (.v 10) (.k (.int 2)))]), (.v 1), (.v 2), (.k (.int 1))])
        (l := List.range cnt.toNat) (h := fun (j : Nat) => .f (.int (0 + (j : Nat)))) (g := fun x => some (g x)) (by clear hg hN hD hP hc d1 dr hv; (simp (disch := first | omega | assumption | rfl | (simp only [List.length_cons, List.length_nil, List.length_map, List.length_append, len_appS]; omega)) only [evA, evC, Nat.reduceAdd, Nat.reduceSub, Int.reduceLT, Int.reduceLE, Int.reduceNeg, Int.reduceToNat, Int.reducePow, Int.reduceAdd, Int.reduceMul, Int.reduceEq, Int.reduceSub, reduceIte, reduceCtorEq, *]); rfl)
        (fun j hj => ⟨_, rfl, by
          have q := (hg j hj).2
          have hj' := List.mem_range.mp hj
          have dj := dr ((j : Nat) + 2) (by omega)
          clear hg hN hD hP hc d1 dr hv hw wm hj
          refine turn_none ?_
          simp only [Int.zero_add]
          (simp (disch := first | omega | assumption | rfl | (simp only [List.length_cons, List.length_nil, List.length_map, List.length_append, len_appS]; omega)) only [evA, evC, Nat.reduceAdd, Nat.reduceSub, Int.reduceLT, Int.reduceLE, Int.reduceNeg, Int.reduceToNat, Int.reducePow, Int.reduceAdd, Int.reduceMul, Int.reduceEq, Int.reduceSub, reduceIte, reduceCtorEq, *])⟩) (by rw [List.length_range]; omega)
      rw [fm_some] at lc
      have ll : ((List.range cnt.toNat).map g).length ≤ 16777216 := by rw [List.length_map, List.length_range]; omega
      generalize (List.range cnt.toNat).map g = gl at lc ll ⊢
      rw [call_eq (F := F__law_short) rfl rfl]
      simp only [B__law_short]
      generalize E.lc _ _ _ _ _ = e1 at lc ⊢
      clear hg hN hD hP dr wm hz2 hy hz vm
      rcases hk with ⟨hk, hp⟩ | hk
      · rw [hk] at lc
        (simp (disch := first | omega | assumption | rfl | (simp only [List.length_cons, List.length_nil, List.length_map, List.length_append, len_appS]; omega)) only [evA, evC, Nat.reduceAdd, Nat.reduceSub, Int.reduceLT, Int.reduceLE, Int.reduceNeg, Int.reduceToNat, Int.reducePow, Int.reduceAdd, Int.reduceMul, Int.reduceEq, Int.reduceSub, reduceIte, reduceCtorEq, *])
      · (simp (disch := first | omega | assumption | rfl | (simp only [List.length_cons, List.length_nil, List.length_map, List.length_append, len_appS]; omega)) only [evA, evC, Nat.reduceAdd, Nat.reduceSub, Int.reduceLT, Int.reduceLE, Int.reduceNeg, Int.reduceToNat, Int.reducePow, Int.reduceAdd, Int.reduceMul, Int.reduceEq, Int.reduceSub, reduceIte, reduceCtorEq, *])
    · refine ⟨.tup [.str "tell", y], fun d => .tell d y hy, fun s => ?_⟩
      rw [call_eq (F := F__law_short) rfl rfl]
      simp only [B__law_short]
      generalize E.lc _ _ _ _ _ = e1
      clear hN hD hP dr hy hz vm
      rcases hk with ⟨hk, hp⟩ | hk
      · (simp (disch := first | omega | assumption | rfl | (simp only [List.length_cons, List.length_nil, List.length_map, List.length_append, len_appS]; omega)) only [evA, evC, Nat.reduceAdd, Nat.reduceSub, Int.reduceLT, Int.reduceLE, Int.reduceNeg, Int.reduceToNat, Int.reducePow, Int.reduceAdd, Int.reduceMul, Int.reduceEq, Int.reduceSub, reduceIte, reduceCtorEq, *])
      · (simp (disch := first | omega | assumption | rfl | (simp only [List.length_cons, List.length_nil, List.length_map, List.length_append, len_appS]; omega)) only [evA, evC, Nat.reduceAdd, Nat.reduceSub, Int.reduceLT, Int.reduceLE, Int.reduceNeg, Int.reduceToNat, Int.reducePow, Int.reduceAdd, Int.reduceMul, Int.reduceEq, Int.reduceSub, reduceIte, reduceCtorEq, *])
  by_cases a1 : c.fmod 16 < 4
  · refine ⟨.tup [.str "let", .str z, y], fun d => .lt d z y vm hy, fun s => ?_⟩
    rw [call_eq (F := F__law_short) rfl rfl]
    simp only [B__law_short]
    generalize E.lc _ _ _ _ _ = e1
    clear tl hN hD hP dr hy hz vm
    (simp (disch := first | omega | assumption | rfl | (simp only [List.length_cons, List.length_nil, List.length_map, List.length_append, len_appS]; omega)) only [evA, evC, Nat.reduceAdd, Nat.reduceSub, Int.reduceLT, Int.reduceLE, Int.reduceNeg, Int.reduceToNat, Int.reducePow, Int.reduceAdd, Int.reduceMul, Int.reduceEq, Int.reduceSub, reduceIte, reduceCtorEq, *])
  by_cases a2 : c.fmod 16 < 6
  · refine ⟨.tup [.str "tell", y], fun d => .tell d y hy, fun s => ?_⟩
    rw [call_eq (F := F__law_short) rfl rfl]
    simp only [B__law_short]
    generalize E.lc _ _ _ _ _ = e1
    clear tl hN hD hP dr hy hz vm
    (simp (disch := first | omega | assumption | rfl | (simp only [List.length_cons, List.length_nil, List.length_map, List.length_append, len_appS]; omega)) only [evA, evC, Nat.reduceAdd, Nat.reduceSub, Int.reduceLT, Int.reduceLE, Int.reduceNeg, Int.reduceToNat, Int.reducePow, Int.reduceAdd, Int.reduceMul, Int.reduceEq, Int.reduceSub, reduceIte, reduceCtorEq, *])
  by_cases a3 : c.fmod 16 = 6
  · refine ⟨.tup [.str "get", .str z], fun d => .get d z vm, fun s => ?_⟩
    rw [call_eq (F := F__law_short) rfl rfl]
    simp only [B__law_short]
    generalize E.lc _ _ _ _ _ = e1
    clear tl hN hD hP dr hy hz vm
    (simp (disch := first | omega | assumption | rfl | (simp only [List.length_cons, List.length_nil, List.length_map, List.length_append, len_appS]; omega)) only [evA, evC, Nat.reduceAdd, Nat.reduceSub, Int.reduceLT, Int.reduceLE, Int.reduceNeg, Int.reduceToNat, Int.reducePow, Int.reduceAdd, Int.reduceMul, Int.reduceEq, Int.reduceSub, reduceIte, reduceCtorEq, *])
  by_cases a4 : c.fmod 16 = 7
  · refine ⟨.tup [.str "give", y], fun d => .give d y hy, fun s => ?_⟩
    rw [call_eq (F := F__law_short) rfl rfl]
    simp only [B__law_short]
    generalize E.lc _ _ _ _ _ = e1
    clear tl hN hD hP dr hy hz vm
    (simp (disch := first | omega | assumption | rfl | (simp only [List.length_cons, List.length_nil, List.length_map, List.length_append, len_appS]; omega)) only [evA, evC, Nat.reduceAdd, Nat.reduceSub, Int.reduceLT, Int.reduceLE, Int.reduceNeg, Int.reduceToNat, Int.reducePow, Int.reduceAdd, Int.reduceMul, Int.reduceEq, Int.reduceSub, reduceIte, reduceCtorEq, *])
  by_cases a5 : c.fmod 16 = 8
  · by_cases hp : 0 < pl.length
    · obtain ⟨w, hw, wm⟩ := at_pick (l := pl) (c.fdiv 256) hp
      refine ⟨.tup [.str "new", .str z, w], fun d => .new d z w vm wm, fun s => ?_⟩
      rw [call_eq (F := F__law_short) rfl rfl]
      simp only [B__law_short]
      generalize E.lc _ _ _ _ _ = e1
      clear tl hN hD hP dr hy hz wm vm
      (simp (disch := first | omega | assumption | rfl | (simp only [List.length_cons, List.length_nil, List.length_map, List.length_append, len_appS]; omega)) only [evA, evC, Nat.reduceAdd, Nat.reduceSub, Int.reduceLT, Int.reduceLE, Int.reduceNeg, Int.reduceToNat, Int.reducePow, Int.reduceAdd, Int.reduceMul, Int.reduceEq, Int.reduceSub, reduceIte, reduceCtorEq, *])
    · exact tl True trivial (.inl ⟨a5, by omega⟩)
  by_cases a6 : c.fmod 16 = 9
  · refine ⟨.tup [.str "hand", .str z, y], fun d => .hand d z y vm hy, fun s => ?_⟩
    rw [call_eq (F := F__law_short) rfl rfl]
    simp only [B__law_short]
    generalize E.lc _ _ _ _ _ = e1
    clear tl hN hD hP dr hy hz vm
    (simp (disch := first | omega | assumption | rfl | (simp only [List.length_cons, List.length_nil, List.length_map, List.length_append, len_appS]; omega)) only [evA, evC, Nat.reduceAdd, Nat.reduceSub, Int.reduceLT, Int.reduceLE, Int.reduceNeg, Int.reduceToNat, Int.reducePow, Int.reduceAdd, Int.reduceMul, Int.reduceEq, Int.reduceSub, reduceIte, reduceCtorEq, *])
  by_cases a7 : c.fmod 16 = 10
  · have u1 := fm_lo (c.fdiv 256) 4 (by decide)
    have u2 := fm_hi (c.fdiv 256) 4 (by decide)
    refine ⟨.tup [.str "hand", .str z, .tup [.str "number", .int (1 + (c.fdiv 256).fmod 4)]], fun d => .hand d z _ vm (.num _ _ (by omega)), fun s => ?_⟩
    rw [call_eq (F := F__law_short) rfl rfl]
    simp only [B__law_short]
    generalize E.lc _ _ _ _ _ = e1
    clear tl hN hD hP dr hy hz vm
    (simp (disch := first | omega | assumption | rfl | (simp only [List.length_cons, List.length_nil, List.length_map, List.length_append, len_appS]; omega)) only [evA, evC, Nat.reduceAdd, Nat.reduceSub, Int.reduceLT, Int.reduceLE, Int.reduceNeg, Int.reduceToNat, Int.reducePow, Int.reduceAdd, Int.reduceMul, Int.reduceEq, Int.reduceSub, reduceIte, reduceCtorEq, *])
  by_cases a8 : c.fmod 16 = 11
  · obtain ⟨w, hw, wm⟩ := at_pick (l := nm) (c.fdiv 256) hN.1
    obtain ⟨z2, rfl, hz2⟩ := hN.2.2 w wm
    refine ⟨.tup [.str "await", .str z, .str z2], fun d => .await d z z2 vm wm, fun s => ?_⟩
    rw [call_eq (F := F__law_short) rfl rfl]
    simp only [B__law_short]
    generalize E.lc _ _ _ _ _ = e1
    clear tl hD hP dr hy hz hz2 wm vm
    clear hN
    (simp (disch := first | omega | assumption | rfl | (simp only [List.length_cons, List.length_nil, List.length_map, List.length_append, len_appS]; omega)) only [evA, evC, Nat.reduceAdd, Nat.reduceSub, Int.reduceLT, Int.reduceLE, Int.reduceNeg, Int.reduceToNat, Int.reducePow, Int.reduceAdd, Int.reduceMul, Int.reduceEq, Int.reduceSub, reduceIte, reduceCtorEq, *])
  · exact tl True trivial (.inr (by omega))


end K11

namespace K11
open PySem JM L2
/-! ### blocks that are built -/
def Stt (nm dd pl : List F) (d : Nat) (n : Nat) : Prop := ∀ c, ∃ y, Sm nm dd pl d y ∧ ∀ s, callF T n i__law_statement [.f (.int c), .f (.lst nm), .f (.lst dd), .f (.lst pl), .f (.int d)] s = .ok (.f y) s
theorem o_block1 {nm dd pl : List F} {d n : Nat} (h : Stt nm dd pl d n) (hn : 1 ≤ n) (c k : Int) (hk : 0 ≤ k ∧ k ≤ 20) :
    ∃ l : List F, l.length = k.toNat ∧ (∀ x ∈ l, Sm nm dd pl d x) ∧ ∀ s, callF T (n + 1) i__law_block [.f (.int c), .f (.int k), .f (.lst nm), .f (.lst dd), .f (.lst pl), .f (.int d)] s = .ok (.f (.tup l)) s := by
  obtain ⟨g, hg⟩ := pickF (l := List.range k.toNat) (Q := fun j y => Sm nm dd pl d y ∧ ∀ s, callF T n i__law_statement [.f (.int (drw c (j : Nat))), .f (.lst nm), .f (.lst dd), .f (.lst pl), .f (.int d)] s = .ok (.f y) s) fun j hj => h _
  refine ⟨(List.range k.toNat).map g, by rw [List.length_map, List.length_range], fun x hx => by
    obtain ⟨j, hj, rfl⟩ := List.mem_map.mp hx
    exact (hg j hj).1, fun s => ?_⟩
  have lc := lc_map (call := callF T n) (mk := callM T n) (env := [some (.f (.int c)), some (.f (.int k)), some (.f (.lst nm)), some (.f (.lst dd)), some (.f (.lst pl)), some (.f (.int d)), none, none]) (s := s) (it := .rng1 (.v 1)) (p := .one 7) (c := none) (e := .call i__law_statement [(.call i__law_drawn [(.v 0), (.v 7)]), (.v 2), (.v 3), (.v 4), (.v 5)])
    (l := List.range k.toNat) (h := fun (j : Nat) => .f (.int (0 + (j : Nat)))) (g := fun x => some (g x)) (by clear hg h; (simp (disch := first | omega | assumption | rfl | (simp only [List.length_cons, List.length_nil, List.length_map, List.length_append, len_appS]; omega)) only [evA, evC, Nat.reduceAdd, Nat.reduceSub, Int.reduceLT, Int.reduceLE, Int.reduceNeg, Int.reduceToNat, Int.reducePow, Int.reduceAdd, Int.reduceMul, Int.reduceEq, Int.reduceSub, reduceIte, reduceCtorEq, *]); rfl)
    (fun j hj => ⟨_, rfl, by
      have q := (hg j hj).2
      have hj' := List.mem_range.mp hj
      have dj := fun s => o_drawn (n := n) (by omega) c (j : Nat) (by omega) s
      clear hg h hj
      refine turn_none ?_
      simp only [Int.zero_add]
      (simp (disch := first | omega | assumption | rfl | (simp only [List.length_cons, List.length_nil, List.length_map, List.length_append, len_appS]; omega)) only [evA, evC, Nat.reduceAdd, Nat.reduceSub, Int.reduceLT, Int.reduceLE, Int.reduceNeg, Int.reduceToNat, Int.reducePow, Int.reduceAdd, Int.reduceMul, Int.reduceEq, Int.reduceSub, reduceIte, reduceCtorEq, *])⟩) (by rw [List.length_range]; omega)
  rw [fm_some] at lc
  have ll : ((List.range k.toNat).map g).length ≤ 16777216 := by rw [List.length_map, List.length_range]; omega
  generalize (List.range k.toNat).map g = gl at lc ll ⊢
  rw [call_eq (F := F__law_block) rfl rfl]
  simp only [B__law_block]
  generalize E.lc _ _ _ _ _ = e1 at lc ⊢
  clear hg h
  (simp (disch := first | omega | assumption | rfl | (simp only [List.length_cons, List.length_nil, List.length_map, List.length_append, len_appS]; omega)) only [evA, evC, Nat.reduceAdd, Nat.reduceSub, Int.reduceLT, Int.reduceLE, Int.reduceNeg, Int.reduceToNat, Int.reducePow, Int.reduceAdd, Int.reduceMul, Int.reduceEq, Int.reduceSub, reduceIte, reduceCtorEq, *])
theorem Pl4 {a b c d : F} (h : Pl a = true) (k : Pl b = true) (l : Pl c = true) (m : Pl d = true) : Pl (.tup [a, b, c, d]) = true := by
  simp only [Pl, Pls, h, k, l, m, List.length_cons, List.length_nil]; rfl
theorem o_statement (nm dd pl : List F) (hN : Nms nm) (hD : Dds dd) (hP : Pln pl) : ∀ (d : Nat) {n : Nat}, 2 * d + 7 ≤ n → Stt nm dd pl d n := by
  intro d
  induction d with
  | zero =>
    intro n hn c
    obtain ⟨n, rfl⟩ : ∃ m, n = m + 1 := ⟨n - 1, by omega⟩
    obtain ⟨y, hy, hc⟩ := o_short nm dd pl hN hD hP (n := n) (by omega) (c.fdiv 12)
    refine ⟨y, hy _, fun s => ?_⟩
    rw [call_eq (F := F__law_statement) rfl rfl]
    simp only [B__law_statement]
    have e0 : ((0 : Nat) : Int) = 0 := rfl
    rw [e0]
    clear hN hD hP hy
    (simp (disch := first | omega | assumption | rfl | (simp only [List.length_cons, List.length_nil, List.length_map, List.length_append, len_appS]; omega)) only [evA, evC, Nat.reduceAdd, Nat.reduceSub, Int.reduceLT, Int.reduceLE, Int.reduceNeg, Int.reduceToNat, Int.reducePow, Int.reduceAdd, Int.reduceMul, Int.reduceEq, Int.reduceSub, reduceIte, reduceCtorEq, *])
  | succ d ih =>
    intro n hn c
    obtain ⟨n, rfl⟩ : ∃ m, n = m + 1 + 1 := ⟨n - 2, by omega⟩
    have n1 := hN.1
    have k1 := fm_lo c 12 (by decide)
    have k2 := fm_hi c 12 (by decide)
    have ed : ((d + 1 : Nat) : Int) - 1 = (d : Nat) := by omega
    have ed0 : decide (((d + 1 : Nat) : Int) = 0) = false := by simp; omega
    generalize ((d + 1 : Nat) : Int) = dz at *
    by_cases h1 : c.fmod 12 < 9
    · obtain ⟨y, hy, hc⟩ := o_short nm dd pl hN hD hP (n := n + 1) (by omega) (c.fdiv 12)
      refine ⟨y, hy _, fun s => ?_⟩
      rw [call_eq (F := F__law_statement) rfl rfl]
      simp only [B__law_statement]
      clear hN hD hP hy ih
      (simp (disch := first | omega | assumption | rfl | (simp only [List.length_cons, List.length_nil, List.length_map, List.length_append, len_appS]; omega)) only [evA, evC, Nat.reduceAdd, Nat.reduceSub, Int.reduceLT, Int.reduceLE, Int.reduceNeg, Int.reduceToNat, Int.reducePow, Int.reduceAdd, Int.reduceMul, Int.reduceEq, Int.reduceSub, reduceIte, reduceCtorEq, *])
    obtain ⟨y, hy, hc⟩ := o_expr nm dd hN hD 2 (n := n + 1) (by omega) (drw c 1) (drw_lo _ _)
    have e2 : ((2 : Nat) : Int) = 2 := rfl
    rw [e2] at hc
    clear e2
    have d1 := fun s => o_drawn (n := n + 1) (by omega) c 1 (by omega) s
    have d2 := fun s => o_drawn (n := n + 1) (by omega) c 2 (by omega) s
    have u1 := fm_lo (c.fdiv 12) 4 (by decide)
    have u2 := fm_hi (c.fdiv 12) 4 (by decide)
    obtain ⟨l1, hl1, hp1, hb1⟩ := o_block1 (ih (n := n) (by omega)) (by omega) (drw c 2) ((c.fdiv 12).fmod 4) (by omega)
    have b1 : l1.length ≤ 4 := by omega
    by_cases h2 : c.fmod 12 = 9
    · refine ⟨.tup [.str "while", y, .tup l1], .whl d y l1 hy (by omega) hp1, fun s => ?_⟩
      rw [call_eq (F := F__law_statement) rfl rfl]
      simp only [B__law_statement]
      clear hN hD hP hy ih hp1 hl1
      (simp (disch := first | omega | assumption | rfl | (simp only [List.length_cons, List.length_nil, List.length_map, List.length_append, len_appS]; omega)) only [evA, evC, Nat.reduceAdd, Nat.reduceSub, Int.reduceLT, Int.reduceLE, Int.reduceNeg, Int.reduceToNat, Int.reducePow, Int.reduceAdd, Int.reduceMul, Int.reduceEq, Int.reduceSub, reduceIte, reduceCtorEq, *])
    by_cases h3 : c.fmod 12 = 10
    · obtain ⟨v, hv, vm⟩ := at_pick (l := nm) (c.fdiv 48) hN.1
      obtain ⟨z, rfl, hz⟩ := hN.2.2 v vm
      have w1 := fm_lo (c.fdiv 960) 9 (by decide)
      have w2 := fm_hi (c.fdiv 960) 9 (by decide)
      refine ⟨.tup [.str "while", .tup [.str "<", .tup [.str "name", .str z], .tup [.str "number", .int ((c.fdiv 960).fmod 9)]], .tup (l1 ++ [.tup [.str "let", .str z, .tup [.str "+", .tup [.str "name", .str z], .tup [.str "number", .int 1]]]])],
        .cnt d z _ l1 vm ⟨w1, w2⟩ (by omega) hp1, fun s => ?_⟩
      rw [call_eq (F := F__law_statement) rfl rfl]
      simp only [B__law_statement]
      clear hN hD hP hy ih hp1 hl1 vm hz
      (simp (disch := first | omega | assumption | rfl | (simp only [List.length_cons, List.length_nil, List.length_map, List.length_append, len_appS]; omega)) only [evA, evC, Nat.reduceAdd, Nat.reduceSub, Int.reduceLT, Int.reduceLE, Int.reduceNeg, Int.reduceToNat, Int.reducePow, Int.reduceAdd, Int.reduceMul, Int.reduceEq, Int.reduceSub, reduceIte, reduceCtorEq, *])
    · have d3 := fun s => o_drawn (n := n + 1) (by omega) c 3 (by omega) s
      have w1 := fm_lo (c.fdiv 48) 3 (by decide)
      have w2 := fm_hi (c.fdiv 48) 3 (by decide)
      obtain ⟨l2, hl2, hp2, hb2⟩ := o_block1 (ih (n := n) (by omega)) (by omega) (drw c 3) ((c.fdiv 48).fmod 3) (by omega)
      refine ⟨.tup [.str "if", y, .tup l1, .tup l2], .ite d y l1 l2 hy (by omega) (by omega) hp1 hp2, fun s => ?_⟩
      rw [call_eq (F := F__law_statement) rfl rfl]
      simp only [B__law_statement]
      clear hN hD hP hy ih hp1 hl1 hp2 hl2
      (simp (disch := first | omega | assumption | rfl | (simp only [List.length_cons, List.length_nil, List.length_map, List.length_append, len_appS]; omega)) only [evA, evC, Nat.reduceAdd, Nat.reduceSub, Int.reduceLT, Int.reduceLE, Int.reduceNeg, Int.reduceToNat, Int.reducePow, Int.reduceAdd, Int.reduceMul, Int.reduceEq, Int.reduceSub, reduceIte, reduceCtorEq, *])
theorem o_block (nm dd pl : List F) (hN : Nms nm) (hD : Dds dd) (hP : Pln pl) (d : Nat) {n : Nat} (hn : 2 * d + 8 ≤ n) (c k : Int) (hk : 0 ≤ k ∧ k ≤ 20) :
    ∃ l : List F, l.length = k.toNat ∧ (∀ x ∈ l, Sm nm dd pl d x) ∧ ∀ s, callF T n i__law_block [.f (.int c), .f (.int k), .f (.lst nm), .f (.lst dd), .f (.lst pl), .f (.int d)] s = .ok (.f (.tup l)) s := by
  obtain ⟨n, rfl⟩ : ∃ m, n = m + 1 := ⟨n - 1, by omega⟩
  exact o_block1 (o_statement nm dd pl hN hD hP d (n := n) (by omega)) (by omega) c k hk


end K11

namespace K11
open PySem JM L2
/-! ### loops -/
theorem forR_all {f : D → Env' → Sto → O} {g : D → Bool} {P : Nat → Env' → Sto → Prop} {Q : Sto → Prop} {d0 : D} : ∀ {l : List D} {i : Nat} {env : Env'} {s : Sto}, P i env s →
    (∀ (j : Nat) x env s, l[j]? = some x → P (i + j) env s → if g x = true then ∃ env' s', f x env s = .nx env' s' ∧ P (i + j + 1) env' s' else ∃ s', f x env s = .rt d0 s' ∧ Q s') →
    if l.all g = true then ∃ env' s', forR f l env s = .nx env' s' ∧ P (i + l.length) env' s' else ∃ s', forR f l env s = .rt d0 s' ∧ Q s'
  | [], i, env, s, h, _ => by rw [List.all_nil, if_pos rfl]; exact ⟨env, s, rfl, h⟩
  | x :: l, i, env, s, h, st => by
    have h0 := st 0 x env s rfl h
    rw [List.all_cons]
    cases q : g x with
    | false =>
      rw [q, if_neg (by decide)] at h0
      obtain ⟨s', hs, hq⟩ := h0
      rw [Bool.false_and, if_neg (by decide)]
      exact ⟨s', by unfold forR; rw [hs], hq⟩
    | true =>
      rw [q, if_pos rfl] at h0
      obtain ⟨e1, s1, h1, h2⟩ := h0
      rw [Bool.true_and]
      have go := forR_all (l := l) (i := i + 1) (f := f) (g := g) (P := P) (Q := Q) (d0 := d0) h2 fun j y e2 s2 hy hp => by
        have := st (j + 1) y e2 s2 hy (by rw [show i + (j + 1) = i + 1 + j by omega]; exact hp)
        rw [show i + (j + 1) + 1 = i + 1 + j + 1 by omega] at this
        exact this
      have e : forR f (x :: l) env s = forR f l e1 s1 := by
        conv => lhs; unfold forR
        rw [h1]
      rw [e, List.length_cons, show i + (l.length + 1) = i + 1 + l.length by omega]
      exact go
theorem for_all {call mk : Nat → List D → Sto → JM.R D} {sub : Nat → Nat → Bool} {env : Env'} {s : Sto} {p : Pat} {it : JM.It} {b : List S} {items : List D} {d0 : D} (hi : evIt call mk it env s = .ok items s) (g : D → Bool) (P : Nat → Env' → Sto → Prop) (Q : Sto → Prop) (h0 : P 0 env s)
    (st : ∀ (j : Nat) x env s, items[j]? = some x → P j env s → ∃ env1, bindP p x s env = some env1 ∧ if g x = true then ∃ env2 s2, exSs call mk sub b env1 s = .nx env2 s2 ∧ P (j + 1) env2 s2 else ∃ s2, exSs call mk sub b env1 s = .rt d0 s2 ∧ Q s2) :
    if items.all g = true then ∃ env' s', exS call mk sub (.for_ p it b) env s = .nx env' s' ∧ P items.length env' s' else ∃ s', exS call mk sub (.for_ p it b) env s = .rt d0 s' ∧ Q s' := by
  have e : exS call mk sub (.for_ p it b) env s = (evIt call mk it env s).go env fun items s => forR (fun x env s => match bindP p x s env with | some env' => exSs call mk sub b env' s | none => .fail) items env s := rfl
  rw [e, hi, R.go_ok]
  have h := forR_all (f := fun x env s => match bindP p x s env with | some env' => exSs call mk sub b env' s | none => .fail) (g := g) (P := P) (Q := Q) (d0 := d0) (l := items) (i := 0) h0 fun j x env s hx hp => by
    rw [Nat.zero_add] at hp
    obtain ⟨env1, a, hh⟩ := st j x env s hx hp
    rw [Nat.zero_add]
    simp only [a]
    exact hh
  rw [Nat.zero_add] at h
  exact h
theorem set_st2 {call mk : Nat → List D → Sto → JM.R D} {sub : Nat → Nat → Bool} {env : List (Option D)} {s : Sto} {i : Nat} {e : E} (d : D) (s' : Sto) {l : List S} {r : O} (h : evE call mk e env s = .ok d s') (k : exSs call mk sub l (env.set i (some d)) s' = r) : exSs call mk sub (.set i e :: l) env s = r := by
  rw [set_go h, k]
theorem ret_st {call mk : Nat → List D → Sto → JM.R D} {sub : Nat → Nat → Bool} {env : List (Option D)} {s s' : Sto} {x : S} {d : D} {l : List S} (h : exS call mk sub x env s = .rt d s') : exSs call mk sub (x :: l) env s = .rt d s' := by
  rw [z_cons, h, O.bind_rt]
theorem y_rngN {call : Nat → List D → Sto → JM.R D} {mk} {e : E} {env : List (Option D)} {s s' : Sto} {i : Int} (h : evE call mk e env s = .ok (.f (.int i)) s') (hi : inRng i = true) : evIt call mk (.rng1 e) env s = .ok (rngL 0 i.toNat) s' := by
  rw [y_rng1, h]
  simp only [R.bind_ok, hi, if_true]


end K11

namespace K11
open PySem JM L2
/-! ### what names mean; the first fault -/
def unkF (z : Str) : F := .tup [.str "unknown", .str z]
def sortF (z : Str) : F := .tup [.str "sort", .str z]
def cntF (z : Str) : F := .tup [.str "count", .str z]
def isN : F → Bool
  | .non => true
  | _ => false
/-- a fault, or none -/
def Flt (r : F) : Prop := r = .non ∨ ∃ a b : Str, r = .tup [.str a, .str b]
theorem flt_non : Flt .non := .inl rfl
theorem flt_tup (a b : Str) : Flt (.tup [.str a, .str b]) := .inr ⟨a, b, rfl⟩
theorem Flt.isn {r : F} (h : Flt r) (e : isN r = true) : r = .non := by
  rcases h with rfl | ⟨a, b, rfl⟩
  · rfl
  · cases e
theorem e_isF {r : F} (h : Flt r) (s : Sto) : cIs (.f r) (.f .non) s = .ok (.f (.bl (isN r))) s := by
  rcases h with rfl | ⟨a, b, rfl⟩ <;> rfl
theorem e_nisF {r : F} (h : Flt r) (s : Sto) : cNis (.f r) (.f .non) s = .ok (.f (.bl (!isN r))) s := by
  rcases h with rfl | ⟨a, b, rfl⟩ <;> rfl
def firstF : List F → F
  | [] => .non
  | a :: l => if isN a = true then firstF l else a
theorem firstF_flt : ∀ {l : List F}, (∀ x ∈ l, Flt x) → Flt (firstF l)
  | [], _ => flt_non
  | a :: l, h => by
    cases q : isN a with
    | true => rw [show firstF (a :: l) = firstF l from if_pos q]; exact firstF_flt fun x hx => h x (List.mem_cons_of_mem _ hx)
    | false => rw [show firstF (a :: l) = a from if_neg (by rw [q]; decide)]; exact h a (List.mem_cons_self ..)
theorem firstF_yes {a : F} {l : List F} (h : isN a = true) : firstF (a :: l) = firstF l := if_pos h
theorem firstF_no {a : F} {l : List F} (h : isN a = false) : firstF (a :: l) = a := if_neg (by rw [h]; decide)
theorem firstF_snoc : ∀ {l : List F} {a : F}, (∀ x ∈ l, Flt x) → Flt a → firstF (l ++ [a]) = if isN (firstF l) = true then a else firstF l
  | [], a, _, ha => by
    show (if isN a = true then F.non else a) = a
    split
    · rename_i e; exact (ha.isn e).symm
    · rfl
  | b :: l, a, h, ha => by
    have ih := firstF_snoc (l := l) (a := a) (fun x hx => h x (List.mem_cons_of_mem _ hx)) ha
    rw [List.cons_append]
    cases q : isN b with
    | true => rw [firstF_yes q, firstF_yes q, ih]
    | false => rw [firstF_no q, firstF_no q, q, if_neg (by decide)]
theorem firstF_one {a : F} (h : Flt a) : firstF [a] = a := by
  cases q : isN a with
  | true => rw [firstF_yes q, h.isn q]; rfl
  | false => rw [firstF_no q]
section first
variable {call mk : Nat → List D → Sto → JM.R D} {sub : Nat → Nat → Bool} {env : Env'} {s : Sto}
theorem forR_first {f : D → Env' → Sto → O} {g : D → F} {P : Env' → Prop} : ∀ {l : List D} {env : Env'} {s : Sto}, P env →
    (∀ x ∈ l, ∀ env, P env → (isN (g x) = true ∧ ∃ env', f x env s = .nx env' s ∧ P env') ∨ (isN (g x) = false ∧ f x env s = .rt (.f (g x)) s)) →
    (isN (firstF (l.map g)) = true ∧ ∃ env', forR f l env s = .nx env' s ∧ P env') ∨ (isN (firstF (l.map g)) = false ∧ forR f l env s = .rt (.f (firstF (l.map g))) s)
  | [], env, s, h, _ => .inl ⟨rfl, env, rfl, h⟩
  | x :: l, env, s, h, st => by
    rw [List.map_cons]
    rcases st x (List.mem_cons_self ..) env h with ⟨q, env', e, h'⟩ | ⟨q, e⟩
    · rw [firstF_yes q]
      have e2 : forR f (x :: l) env s = forR f l env' s := by
        conv => lhs; unfold forR
        rw [e]
      rw [e2]
      exact forR_first h' fun y hy => st y (List.mem_cons_of_mem _ hy)
    · rw [firstF_no q]
      exact .inr ⟨q, by unfold forR; rw [e]⟩
/-- for, with the first fault returned -/
theorem for_first {p : Pat} {it : JM.It} {b : List S} {items : List D} (hi : evIt call mk it env s = .ok items s) (g : D → F) (P : Env' → Prop) (h0 : P env)
    (st : ∀ x ∈ items, ∀ env, P env → ∃ env1, bindP p x s env = some env1 ∧ ((isN (g x) = true ∧ ∃ env', exSs call mk sub b env1 s = .nx env' s ∧ P env') ∨ (isN (g x) = false ∧ exSs call mk sub b env1 s = .rt (.f (g x)) s))) :
    (isN (firstF (items.map g)) = true ∧ ∃ env', exS call mk sub (.for_ p it b) env s = .nx env' s ∧ P env') ∨ (isN (firstF (items.map g)) = false ∧ exS call mk sub (.for_ p it b) env s = .rt (.f (firstF (items.map g))) s) := by
  have e : exS call mk sub (.for_ p it b) env s = (evIt call mk it env s).go env fun items s => forR (fun x env s => match bindP p x s env with | some env' => exSs call mk sub b env' s | none => .fail) items env s := rfl
  rw [e, hi, R.go_ok]
  exact forR_first h0 fun x hx env hp => by
    obtain ⟨env1, a, hh⟩ := st x hx env hp
    simp only [a]
    exact hh
end first
/-! names' meanings, in dicts and in lists -/
def lk (l : List (Str × Int)) (z : Str) : Option Int := (l.find? fun p => decide (p.1 = z)).map (·.2)
def topD (tl : List (Str × Int)) : List (Key × D) := tl.map fun p => (.inr p.1, .f (.int p.2))
def innD (il : List Str) : List (Key × D) := il.map fun z => (.inr z, .f (.bl true))
theorem key_eq (a b : Str) : decide ((Sum.inr a : Key) = Sum.inr b) = decide (a = b) := by
  by_cases h : a = b
  · subst h; simp
  · rw [decide_eq_false h]; exact decide_eq_false fun e => h (Sum.inr.inj e)
theorem getK_top (z : Str) : ∀ tl : List (Str × Int), getK (topD tl) (.inr z : Key) = (lk tl z).map fun c => D.f (.int c)
  | [] => rfl
  | p :: tl => by
    have ih := getK_top z tl
    unfold getK topD lk at *
    rw [List.map_cons, List.find?_cons, List.find?_cons]
    rw [key_eq]
    cases decide (p.1 = z) with
    | true => rfl
    | false => exact ih
theorem getK_inn (z : Str) : ∀ il : List Str, (getK (innD il) (.inr z : Key)).isSome = decide (z ∈ il)
  | [] => rfl
  | p :: il => by
    have ih := getK_inn z il
    unfold getK innD at *
    rw [List.map_cons, List.find?_cons]
    rw [key_eq]
    by_cases h : p = z
    · subst h
      simp
    · rw [decide_eq_false h]
      have : decide (z ∈ p :: il) = decide (z ∈ il) := by
        by_cases hz : z ∈ il
        · rw [decide_eq_true hz, decide_eq_true (List.mem_cons_of_mem _ hz)]
        · rw [decide_eq_false hz]
          exact decide_eq_false fun q => by
            rcases List.mem_cons.mp q with e | q
            · exact h e.symm
            · exact hz q
      rw [this]
      exact ih
theorem e_inD {s : Sto} {i : Nat} {l : List (Key × D)} (h : s[i]? = some (.dK l)) (z : Str) : cIn (.f (.str z)) (.loc i) s = .ok (.f (.bl (getK l (.inr z : Key)).isSome)) s := by
  have e : hasIn (.f (.str z)) (.loc i) s = some (getK l (.inr z : Key)).isSome := by
    unfold hasIn
    simp only [dGet, h, keyD, Option.map_some]
  unfold cIn
  rw [e]
theorem e_ninD {s : Sto} {i : Nat} {l : List (Key × D)} (h : s[i]? = some (.dK l)) (z : Str) : cNin (.f (.str z)) (.loc i) s = .ok (.f (.bl !(getK l (.inr z : Key)).isSome)) s := by
  have e : hasIn (.f (.str z)) (.loc i) s = some (getK l (.inr z : Key)).isSome := by
    unfold hasIn
    simp only [dGet, h, keyD, Option.map_some]
  unfold cNin
  rw [e]
theorem e_ixD {s : Sto} {i : Nat} {l : List (Key × D)} (h : s[i]? = some (.dK l)) (z : Str) {d : D} (hd : getK l (.inr z : Key) = some d) : cIdx (.loc i) (.f (.str z)) s = .ok d s := by
  unfold cIdx
  simp only [dGet, h, keyD, Option.map_some, hd]
/-- the two dicts of the program -/
structure TI (t i : Nat) (tl : List (Str × Int)) (il : List Str) (s : Sto) : Prop where
  top : s[t]? = some (.dK (topD tl))
  inn : s[i]? = some (.dK (innD il))
def Kp (tl : List (Str × Int)) (il : List Str) (z : Str) : Option Int := if z ∈ il then some (-1) else lk tl z
def fW (k : Option Int) (z : Str) : F := match k with
  | none => unkF z
  | some c => if c = -1 then .non else sortF z
def fN (k : Option Int) (z : Str) : F := match k with
  | none => unkF z
  | some c => if c = -1 then sortF z else .non
theorem fW_flt (k : Option Int) (z : Str) : Flt (fW k z) := by
  unfold fW
  split
  · exact flt_tup _ _
  · split
    · exact flt_non
    · exact flt_tup _ _
theorem fN_flt (k : Option Int) (z : Str) : Flt (fN k z) := by
  unfold fN
  split
  · exact flt_tup _ _
  · split
    · exact flt_tup _ _
    · exact flt_non
theorem fN_non {k : Option Int} {z : Str} (h : isN (fN k z) = true) : ∃ c, k = some c ∧ c ≠ -1 := by
  unfold fN at h
  split at h
  · cases h
  · split at h
    · cases h
    · exact ⟨_, rfl, by assumption⟩
theorem o_fword {n : Nat} (h : 1 ≤ n) {t i : Nat} {tl : List (Str × Int)} {il : List Str} {s : Sto} (hs : TI t i tl il s) (z : Str) : callF T n i_fault_of_word [.f (.str z), .loc t, .loc i] s = .ok (.f (fW (Kp tl il z) z)) s := by
  obtain ⟨n, rfl⟩ : ∃ m, n = m + 1 := ⟨n - 1, by omega⟩
  rw [call_eq (F := F_fault_of_word) rfl rfl]
  have h1 := e_inD hs.inn z
  have h2 := e_ninD hs.top z
  rw [getK_inn] at h1
  have hg := getK_top z tl
  have key : exSs (callF T n) (callM T n) T.sub F_fault_of_word.body (startE F_fault_of_word.nsl [.f (.str z), .loc t, .loc i]) s = .rt (.f (fW (Kp tl il z) z)) s := by
    unfold Kp
    by_cases hi : z ∈ il
    · rw [if_pos hi]
      rw [decide_eq_true hi] at h1
      exact ite_yes (by clear h2 hg hs hi; (simp (disch := first | omega | assumption | rfl | (simp only [List.length_cons, List.length_nil, List.length_map, List.length_append, len_appS]; omega)) only [evA, evC, Nat.reduceAdd, Nat.reduceSub, Int.reduceLT, Int.reduceLE, Int.reduceNeg, Int.reduceToNat, Int.reducePow, Int.reduceAdd, Int.reduceMul, Int.reduceEq, Int.reduceSub, reduceIte, reduceCtorEq, *])) (ret_go rfl)
    · rw [if_neg hi]
      rw [decide_eq_false hi] at h1
      refine no_st (by clear h2 hg hs hi; (simp (disch := first | omega | assumption | rfl | (simp only [List.length_cons, List.length_nil, List.length_map, List.length_append, len_appS]; omega)) only [evA, evC, Nat.reduceAdd, Nat.reduceSub, Int.reduceLT, Int.reduceLE, Int.reduceNeg, Int.reduceToNat, Int.reducePow, Int.reduceAdd, Int.reduceMul, Int.reduceEq, Int.reduceSub, reduceIte, reduceCtorEq, *])) ?_
      cases hk : lk tl z with
      | none =>
        rw [hk] at hg
        rw [hg] at h2
        exact ite_yes (by clear h1 hg hs hi hk; (simp (disch := first | omega | assumption | rfl | (simp only [List.length_cons, List.length_nil, List.length_map, List.length_append, len_appS]; omega)) only [evA, evC, Nat.reduceAdd, Nat.reduceSub, Int.reduceLT, Int.reduceLE, Int.reduceNeg, Int.reduceToNat, Int.reducePow, Int.reduceAdd, Int.reduceMul, Int.reduceEq, Int.reduceSub, reduceIte, reduceCtorEq, *]); rfl) (ret_go (by clear h1 h2 hg hs hi hk; (simp (disch := first | omega | assumption | rfl | (simp only [List.length_cons, List.length_nil, List.length_map, List.length_append, len_appS]; omega)) only [evA, evC, Nat.reduceAdd, Nat.reduceSub, Int.reduceLT, Int.reduceLE, Int.reduceNeg, Int.reduceToNat, Int.reducePow, Int.reduceAdd, Int.reduceMul, Int.reduceEq, Int.reduceSub, reduceIte, reduceCtorEq]); rfl))
      | some c =>
        rw [hk] at hg
        have h3 := e_ixD hs.top z hg
        rw [hg] at h2
        refine no_st (by clear h1 h3 hg hs hi hk; (simp (disch := first | omega | assumption | rfl | (simp only [List.length_cons, List.length_nil, List.length_map, List.length_append, len_appS]; omega)) only [evA, evC, Nat.reduceAdd, Nat.reduceSub, Int.reduceLT, Int.reduceLE, Int.reduceNeg, Int.reduceToNat, Int.reducePow, Int.reduceAdd, Int.reduceMul, Int.reduceEq, Int.reduceSub, reduceIte, reduceCtorEq, *]); rfl) ?_
        by_cases hc : c = -1
        · subst hc
          refine no_st ?_ (ret_go rfl)
          clear h1 h2 hg hs hi hk
          (simp (disch := first | omega | assumption | rfl | (simp only [List.length_cons, List.length_nil, List.length_map, List.length_append, len_appS]; omega)) only [evA, evC, Nat.reduceAdd, Nat.reduceSub, Int.reduceLT, Int.reduceLE, Int.reduceNeg, Int.reduceToNat, Int.reducePow, Int.reduceAdd, Int.reduceMul, Int.reduceEq, Int.reduceSub, reduceIte, reduceCtorEq, *])
        · refine ite_yes ?_ (ret_go ?_)
          · have d1 : decide (c = -1) = false := decide_eq_false hc
            clear h1 h2 hg hs hi hk hc
            (simp (disch := first | omega | assumption | rfl | (simp only [List.length_cons, List.length_nil, List.length_map, List.length_append, len_appS]; omega)) only [evA, evC, Nat.reduceAdd, Nat.reduceSub, Int.reduceLT, Int.reduceLE, Int.reduceNeg, Int.reduceToNat, Int.reducePow, Int.reduceAdd, Int.reduceMul, Int.reduceEq, Int.reduceSub, reduceIte, reduceCtorEq, *])
          · have e : fW (some c) z = sortF z := by unfold fW; simp only [if_neg hc]
            rw [e]
            clear h1 h2 h3 hg hs hi hk hc e
            (simp (disch := first | omega | assumption | rfl | (simp only [List.length_cons, List.length_nil, List.length_map, List.length_append, len_appS]; omega)) only [evA, evC, Nat.reduceAdd, Nat.reduceSub, Int.reduceLT, Int.reduceLE, Int.reduceNeg, Int.reduceToNat, Int.reducePow, Int.reduceAdd, Int.reduceMul, Int.reduceEq, Int.reduceSub, reduceIte, reduceCtorEq])
            rfl
  rw [key]; rfl
theorem o_fdname {n : Nat} (h : 1 ≤ n) {t i : Nat} {tl : List (Str × Int)} {il : List Str} {s : Sto} (hs : TI t i tl il s) (z : Str) : callF T n i_fault_of_deed_name [.f (.str z), .loc t, .loc i] s = .ok (.f (fN (Kp tl il z) z)) s := by
  obtain ⟨n, rfl⟩ : ∃ m, n = m + 1 := ⟨n - 1, by omega⟩
  rw [call_eq (F := F_fault_of_deed_name) rfl rfl]
  have h1 := e_inD hs.inn z
  have h2 := e_ninD hs.top z
  rw [getK_inn] at h1
  have hg := getK_top z tl
  have key : exSs (callF T n) (callM T n) T.sub F_fault_of_deed_name.body (startE F_fault_of_deed_name.nsl [.f (.str z), .loc t, .loc i]) s = .rt (.f (fN (Kp tl il z) z)) s := by
    unfold Kp
    by_cases hi : z ∈ il
    · rw [if_pos hi]
      rw [decide_eq_true hi] at h1
      exact ite_yes (by clear h2 hg hs hi; (simp (disch := first | omega | assumption | rfl | (simp only [List.length_cons, List.length_nil, List.length_map, List.length_append, len_appS]; omega)) only [evA, evC, Nat.reduceAdd, Nat.reduceSub, Int.reduceLT, Int.reduceLE, Int.reduceNeg, Int.reduceToNat, Int.reducePow, Int.reduceAdd, Int.reduceMul, Int.reduceEq, Int.reduceSub, reduceIte, reduceCtorEq, *])) (ret_go (by clear h1 h2 hg hs hi; (simp (disch := first | omega | assumption | rfl | (simp only [List.length_cons, List.length_nil, List.length_map, List.length_append, len_appS]; omega)) only [evA, evC, Nat.reduceAdd, Nat.reduceSub, Int.reduceLT, Int.reduceLE, Int.reduceNeg, Int.reduceToNat, Int.reducePow, Int.reduceAdd, Int.reduceMul, Int.reduceEq, Int.reduceSub, reduceIte, reduceCtorEq]); rfl))
    · rw [if_neg hi]
      rw [decide_eq_false hi] at h1
      refine no_st (by clear h2 hg hs hi; (simp (disch := first | omega | assumption | rfl | (simp only [List.length_cons, List.length_nil, List.length_map, List.length_append, len_appS]; omega)) only [evA, evC, Nat.reduceAdd, Nat.reduceSub, Int.reduceLT, Int.reduceLE, Int.reduceNeg, Int.reduceToNat, Int.reducePow, Int.reduceAdd, Int.reduceMul, Int.reduceEq, Int.reduceSub, reduceIte, reduceCtorEq, *])) ?_
      cases hk : lk tl z with
      | none =>
        rw [hk] at hg
        rw [hg] at h2
        exact ite_yes (by clear h1 hg hs hi hk; (simp (disch := first | omega | assumption | rfl | (simp only [List.length_cons, List.length_nil, List.length_map, List.length_append, len_appS]; omega)) only [evA, evC, Nat.reduceAdd, Nat.reduceSub, Int.reduceLT, Int.reduceLE, Int.reduceNeg, Int.reduceToNat, Int.reducePow, Int.reduceAdd, Int.reduceMul, Int.reduceEq, Int.reduceSub, reduceIte, reduceCtorEq, *]); rfl) (ret_go (by clear h1 h2 hg hs hi hk; (simp (disch := first | omega | assumption | rfl | (simp only [List.length_cons, List.length_nil, List.length_map, List.length_append, len_appS]; omega)) only [evA, evC, Nat.reduceAdd, Nat.reduceSub, Int.reduceLT, Int.reduceLE, Int.reduceNeg, Int.reduceToNat, Int.reducePow, Int.reduceAdd, Int.reduceMul, Int.reduceEq, Int.reduceSub, reduceIte, reduceCtorEq]); rfl))
      | some c =>
        rw [hk] at hg
        have h3 := e_ixD hs.top z hg
        rw [hg] at h2
        refine no_st (by clear h1 h3 hg hs hi hk; (simp (disch := first | omega | assumption | rfl | (simp only [List.length_cons, List.length_nil, List.length_map, List.length_append, len_appS]; omega)) only [evA, evC, Nat.reduceAdd, Nat.reduceSub, Int.reduceLT, Int.reduceLE, Int.reduceNeg, Int.reduceToNat, Int.reducePow, Int.reduceAdd, Int.reduceMul, Int.reduceEq, Int.reduceSub, reduceIte, reduceCtorEq, *]); rfl) ?_
        by_cases hc : c = -1
        · subst hc
          refine ite_yes ?_ (ret_go (by clear h1 h2 h3 hg hs hi hk; (simp (disch := first | omega | assumption | rfl | (simp only [List.length_cons, List.length_nil, List.length_map, List.length_append, len_appS]; omega)) only [evA, evC, Nat.reduceAdd, Nat.reduceSub, Int.reduceLT, Int.reduceLE, Int.reduceNeg, Int.reduceToNat, Int.reducePow, Int.reduceAdd, Int.reduceMul, Int.reduceEq, Int.reduceSub, reduceIte, reduceCtorEq]); rfl))
          clear h1 h2 hg hs hi hk
          (simp (disch := first | omega | assumption | rfl | (simp only [List.length_cons, List.length_nil, List.length_map, List.length_append, len_appS]; omega)) only [evA, evC, Nat.reduceAdd, Nat.reduceSub, Int.reduceLT, Int.reduceLE, Int.reduceNeg, Int.reduceToNat, Int.reducePow, Int.reduceAdd, Int.reduceMul, Int.reduceEq, Int.reduceSub, reduceIte, reduceCtorEq, *])
        · refine no_st ?_ (ret_go ?_)
          · have d1 : decide (c = -1) = false := decide_eq_false hc
            clear h1 h2 hg hs hi hk hc
            (simp (disch := first | omega | assumption | rfl | (simp only [List.length_cons, List.length_nil, List.length_map, List.length_append, len_appS]; omega)) only [evA, evC, Nat.reduceAdd, Nat.reduceSub, Int.reduceLT, Int.reduceLE, Int.reduceNeg, Int.reduceToNat, Int.reducePow, Int.reduceAdd, Int.reduceMul, Int.reduceEq, Int.reduceSub, reduceIte, reduceCtorEq, *])
          · have e : fN (some c) z = .non := by unfold fN; simp only [if_neg hc]
            rw [e]
            rfl
  rw [key]; rfl


end K11

namespace K11
open PySem JM L2
/-! ### calls: both sides -/
def prF (p : Str × Int) : F := .tup [.str p.1, .int p.2]
def Kl (W : List Str) (DD : List (Str × Int)) (z : Str) : Option Int := if z ∈ W then some (-1) else lk DD z
theorem fm_find {α : Type} (f : Str × Int → α) (z : Str) : ∀ l : List (Str × Int), (lk l z = none ∧ (l.filterMap fun p => if p.1 = z then some (f p) else none) = []) ∨ ∃ p r, p ∈ l ∧ p.1 = z ∧ lk l z = some p.2 ∧ (l.filterMap fun p => if p.1 = z then some (f p) else none) = f p :: r
  | [] => .inl ⟨rfl, rfl⟩
  | q :: l => by
    by_cases h : q.1 = z
    · refine .inr ⟨q, l.filterMap fun p => if p.1 = z then some (f p) else none, List.mem_cons_self .., h, ?_, ?_⟩
      · unfold lk; rw [List.find?_cons, decide_eq_true h]; rfl
      · rw [List.filterMap_cons, if_pos h]
    · have e1 : lk (q :: l) z = lk l z := by unfold lk; rw [List.find?_cons, decide_eq_false h]
      have e2 : ((q :: l).filterMap fun p => if p.1 = z then some (f p) else none) = l.filterMap fun p => if p.1 = z then some (f p) else none := by rw [List.filterMap_cons, if_neg h]
      rw [e1, e2]
      rcases fm_find f z l with h | ⟨p, r, hp, a, b, c⟩
      · exact .inl h
      · exact .inr ⟨p, r, List.mem_cons_of_mem _ hp, a, b, c⟩
theorem e_inLs (z : Str) (l : List Str) (s : Sto) : cIn (.f (.str z)) (.f (.lst (l.map F.str))) s = .ok (.f (.bl (decide (z ∈ l)))) s := by
  have : hasIn (.f (.str z)) (.f (.lst (l.map F.str))) s = some (decide (z ∈ l)) := by
    unfold hasIn
    simp only [dGet, seqL, seqT, Option.or]
    rw [List.map_map]
    have e : (D.f ∘ F.str) = fun y => D.f (.str y) := rfl
    rw [e, JM.flat_strs, JM.inSeq_str]
    rfl
  unfold cIn
  rw [this]
section evs
variable {call mk : Nat → List D → Sto → JM.R D} {env : Env'} {s : Sto}
theorem ev_isn {k : Nat} {r : F} (h : env[k]? = some (some (.f r))) (hr : Flt r) : evE call mk (.cmp .is_ (.v k) (.k .non)) env s = .ok (.f (.bl (isN r))) s := by
  rw [x_cmp, x_v, h]
  simp only [R.bind_ok, x_k]
  exact e_isF hr s
theorem ev_nis {k : Nat} {r : F} (h : env[k]? = some (some (.f r))) (hr : Flt r) : evE call mk (.cmp .nis (.v k) (.k .non)) env s = .ok (.f (.bl (!isN r))) s := by
  rw [x_cmp, x_v, h]
  simp only [R.bind_ok, x_k]
  exact e_nisF hr s
end evs
theorem o_flword {n : Nat} (h : 1 ≤ n) (W : List Str) (DD : List (Str × Int)) (hD : DD.length ≤ 100000) (hc : ∀ p ∈ DD, 0 ≤ p.2) (z : Str) (s : Sto) : callF T n i__law_fault_of_word [.f (.str z), .f (.lst (W.map F.str)), .f (.lst (DD.map prF))] s = .ok (.f (fW (Kl W DD z) z)) s := by
  obtain ⟨n, rfl⟩ : ∃ m, n = m + 1 := ⟨n - 1, by omega⟩
  rw [call_eq (F := F__law_fault_of_word) rfl rfl]
  have h1 := fun s => e_inLs z W s
  have lc := lc_map (call := callF T n) (mk := callM T n) (env := [some (.f (.str z)), some (.f (.lst (W.map F.str))), some (.f (.lst (DD.map prF))), none, none]) (s := s) (it := .seq (.v 2)) (p := .tup [3, 4]) (c := some (.cmp .eq (.v 3) (.v 0))) (e := .v 3) (l := DD) (h := fun p => .f (prF p)) (g := fun p => if p.1 = z then some (.str p.1) else none)
    (by clear h1; rw [y_seq, x_v]; simp only [List.getElem?_cons_succ, List.getElem?_cons_zero, R.bind_ok, it_lst, List.map_map]; rfl)
    (fun p hp => ⟨_, rfl, by
      clear h1
      by_cases q : p.1 = z
      · rw [if_pos q]
        have d := decide_eq_true q
        exact turn_yes (by clear q; simp only [List.set_cons_succ, List.set_cons_zero, List.zip_cons_cons, List.zip_nil_right, List.foldl_cons, List.foldl_nil, List.map_cons, List.map_nil]; (simp (disch := first | omega | assumption | rfl | (simp only [List.length_cons, List.length_nil, List.length_map, List.length_append, len_appS]; omega)) only [evA, evC, Nat.reduceAdd, Nat.reduceSub, Int.reduceLT, Int.reduceLE, Int.reduceNeg, Int.reduceToNat, Int.reducePow, Int.reduceAdd, Int.reduceMul, Int.reduceEq, Int.reduceSub, reduceIte, reduceCtorEq, *])) rfl
      · rw [if_neg q]
        have d := decide_eq_false q
        exact turn_no (by clear q; simp only [List.set_cons_succ, List.set_cons_zero, List.zip_cons_cons, List.zip_nil_right, List.foldl_cons, List.foldl_nil, List.map_cons, List.map_nil]; (simp (disch := first | omega | assumption | rfl | (simp only [List.length_cons, List.length_nil, List.length_map, List.length_append, len_appS]; omega)) only [evA, evC, Nat.reduceAdd, Nat.reduceSub, Int.reduceLT, Int.reduceLE, Int.reduceNeg, Int.reduceToNat, Int.reducePow, Int.reduceAdd, Int.reduceMul, Int.reduceEq, Int.reduceSub, reduceIte, reduceCtorEq, *]))⟩) (by omega)
  have key : exSs (callF T n) (callM T n) T.sub F__law_fault_of_word.body (startE F__law_fault_of_word.nsl [.f (.str z), .f (.lst (W.map F.str)), .f (.lst (DD.map prF))]) s = .rt (.f (fW (Kl W DD z) z)) s := by
    unfold Kl
    by_cases hi : z ∈ W
    · rw [if_pos hi]
      rw [decide_eq_true hi] at h1
      refine ite_yes ?_ (ret_go rfl)
      clear lc hi
      generalize W.map F.str = L at *
      (simp (disch := first | omega | assumption | rfl | (simp only [List.length_cons, List.length_nil, List.length_map, List.length_append, len_appS]; omega)) only [evA, evC, Nat.reduceAdd, Nat.reduceSub, Int.reduceLT, Int.reduceLE, Int.reduceNeg, Int.reduceToNat, Int.reducePow, Int.reduceAdd, Int.reduceMul, Int.reduceEq, Int.reduceSub, reduceIte, reduceCtorEq, *])
    · rw [if_neg hi]
      rw [decide_eq_false hi] at h1
      refine no_st (by clear lc hi; generalize W.map F.str = L at *; (simp (disch := first | omega | assumption | rfl | (simp only [List.length_cons, List.length_nil, List.length_map, List.length_append, len_appS]; omega)) only [evA, evC, Nat.reduceAdd, Nat.reduceSub, Int.reduceLT, Int.reduceLE, Int.reduceNeg, Int.reduceToNat, Int.reducePow, Int.reduceAdd, Int.reduceMul, Int.reduceEq, Int.reduceSub, reduceIte, reduceCtorEq, *])) ?_
      have ld := fun l => e_eqNil (s := s) (DD.filterMap fun p => if p.1 = z then some (F.str p.1) else none) l
      have ld := ld (by
        have : Ots (DD.filterMap fun p => if p.1 = z then some (F.str p.1) else none) = true := Ots_iff.mpr fun y hy => by
          obtain ⟨p, hp, e⟩ := List.mem_filterMap.mp hy
          split at e
          · cases e; rfl
          · cases e
        exact Ots.dat this)
      clear h1
      rcases fm_find (fun p => F.str p.1) z DD with ⟨hk, hM⟩ | ⟨p, r, hp, hz, hk, hM⟩
      · rw [hM] at lc ld
        rw [hk]
        refine ite_yes ?_ (ret_go (by clear lc ld; (simp (disch := first | omega | assumption | rfl | (simp only [List.length_cons, List.length_nil, List.length_map, List.length_append, len_appS]; omega)) only [evA, evC, Nat.reduceAdd, Nat.reduceSub, Int.reduceLT, Int.reduceLE, Int.reduceNeg, Int.reduceToNat, Int.reducePow, Int.reduceAdd, Int.reduceMul, Int.reduceEq, Int.reduceSub, reduceIte, reduceCtorEq]); rfl))
        have ld : cEq (.f (.lst [])) (.f (.lst [])) s = .ok (.f (.bl true)) s := ld
        clear hk hM hi
        generalize W.map F.str = L at *
        generalize DD.map prF = L2 at *
        generalize E.lc _ _ _ _ _ = e0 at lc ⊢
        show evE (callF T n) (callM T n) (.cmp .eq e0 (.lst false [])) [some (.f (.str z)), some (.f (.lst L)), some (.f (.lst L2)), none, none] s = _
        rw [x_cmp, lc]
        exact ld
      · rw [hM] at lc ld
        rw [hk]
        have hc' : p.2 ≠ -1 := by have := hc p hp; omega
        refine no_st ?_ (ret_go ?_)
        · have ld : cEq (.f (.lst (.str p.1 :: r))) (.f (.lst [])) s = .ok (.f (.bl false)) s := ld
          clear hk hM hi
          generalize W.map F.str = L at *
          generalize DD.map prF = L2 at *
          generalize E.lc _ _ _ _ _ = e0 at lc ⊢
          show evE (callF T n) (callM T n) (.cmp .eq e0 (.lst false [])) [some (.f (.str z)), some (.f (.lst L)), some (.f (.lst L2)), none, none] s = _
          rw [x_cmp, lc]
          exact ld
        · have e : fW (some p.2) z = sortF z := by unfold fW; simp only [if_neg hc']
          rw [e]
          clear lc ld hk hM hi
          (simp (disch := first | omega | assumption | rfl | (simp only [List.length_cons, List.length_nil, List.length_map, List.length_append, len_appS]; omega)) only [evA, evC, Nat.reduceAdd, Nat.reduceSub, Int.reduceLT, Int.reduceLE, Int.reduceNeg, Int.reduceToNat, Int.reducePow, Int.reduceAdd, Int.reduceMul, Int.reduceEq, Int.reduceSub, reduceIte, reduceCtorEq])
          rfl
  rw [key]; rfl
theorem o_first {n : Nat} (h : 1 ≤ n) (rs : List F) (hr : ∀ x ∈ rs, Flt x) (s : Sto) : callF T n i__law_first [.f (.lst rs)] s = .ok (.f (firstF rs)) s := by
  obtain ⟨n, rfl⟩ : ∃ m, n = m + 1 := ⟨n - 1, by omega⟩
  rw [call_eq (F := F__law_first) rfl rfl]
  have hf := for_first (call := callF T n) (mk := callM T n) (sub := T.sub) (env := [some (.f (.lst rs)), none]) (s := s) (p := .one 1) (it := .seq (.v 0)) (b := [.ite (.cmp .nis (.v 1) (.k .non)) [.ret (.v 1)] []]) (items := rs.map D.f) rfl
    (fun d => match d with | .f x => x | _ => .non) (fun env => ∃ v, env = [some (.f (.lst rs)), v]) ⟨none, rfl⟩ (fun d hd env ⟨v, he⟩ => by
      subst he
      obtain ⟨x, hx, rfl⟩ := List.mem_map.mp hd
      refine ⟨[some (.f (.lst rs)), some (.f x)], rfl, ?_⟩
      have e := ev_nis (call := callF T n) (mk := callM T n) (env := [some (.f (.lst rs)), some (.f x)]) (s := s) (k := 1) rfl (hr x hx)
      show (isN x = true ∧ _) ∨ (isN x = false ∧ _)
      cases q : isN x with
      | true =>
        rw [q] at e
        exact .inl ⟨rfl, _, no_st e z_nil, _, rfl⟩
      | false =>
        rw [q] at e
        exact .inr ⟨rfl, ite_yes e (ret_go rfl)⟩)
  have em : (rs.map D.f).map (fun d => match d with | .f x => x | _ => .non) = rs := by
    rw [List.map_map]
    exact List.map_id' rs
  rw [em] at hf
  have key : exSs (callF T n) (callM T n) T.sub [.for_ (.one 1) (.seq (.v 0)) [.ite (.cmp .nis (.v 1) (.k .non)) [.ret (.v 1)] []], .ret (.k .non)] [some (.f (.lst rs)), none] s = .rt (.f (firstF rs)) s := by
    rcases hf with ⟨q, env', hf, v, rfl⟩ | ⟨q, hf⟩
    · refine run_st _ _ hf (ret_go ?_)
      rw [(firstF_flt hr).isn q]
      rfl
    · exact ret_st hf
  show (exSs (callF T n) (callM T n) T.sub [.for_ (.one 1) (.seq (.v 0)) [.ite (.cmp .nis (.v 1) (.k .non)) [.ret (.v 1)] []], .ret (.k .non)] [some (.f (.lst rs)), none] s).res = _
  rw [key]; rfl
/-- a call's fault, of its name's meaning and its parts' faults -/
def cF (k : Option Int) (z : Str) (rs : List F) (m : Nat) : F := if isN (fN k z) = true then (if isN (firstF rs) = true then (match k with | some c => if c = (m : Nat) then .non else cntF z | none => .non) else firstF rs) else fN k z
theorem cF_flt {k : Option Int} {z : Str} {rs : List F} {m : Nat} (h : ∀ x ∈ rs, Flt x) : Flt (cF k z rs m) := by
  unfold cF
  split
  · split
    · split
      · split
        · exact flt_non
        · exact flt_tup _ _
      · exact flt_non
    · exact firstF_flt h
  · exact fN_flt _ _
/-- what the program finds of a thing, the dicts being there -/
def Pf (n f t i : Nat) (tl : List (Str × Int)) (il : List Str) (x r : F) : Prop := ∀ s, TI t i tl il s → callF T n f [.f x, .loc t, .loc i] s = .ok (.f r) s
def Lf (n f : Nat) (W : List Str) (DD : List (Str × Int)) (x r : F) : Prop := ∀ s, callF T n f [.f x, .f (.lst (W.map F.str)), .f (.lst (DD.map prF))] s = .ok (.f r) s
theorem o_fcall {n t i : Nat} {tl : List (Str × Int)} {il : List Str} (h : 2 ≤ n) (g : F → F) (l : List F) (hl : l.length ≤ 100) (hp : ∀ x ∈ l, Flt (g x) ∧ Pf (n - 1) i_fault_of_expression t i tl il x (g x)) (z : Str) {s : Sto} (hs : TI t i tl il s) :
    callF T n i_fault_of_call [.f (.str z), .f (.tup l), .loc t, .loc i] s = .ok (.f (cF (Kp tl il z) z (l.map g) l.length)) s := by
  obtain ⟨n, rfl⟩ : ∃ m, n = m + 1 := ⟨n - 1, by omega⟩
  simp only [Nat.add_sub_cancel] at hp
  rw [call_eq (F := F_fault_of_call) rfl rfl]
  have h0 := o_fdname (n := n) (by omega) hs z
  have hr0 := fN_flt (Kp tl il z) z
  have hgs : ∀ x ∈ l.map g, Flt x := fun x hx => by
    obtain ⟨y, hy, rfl⟩ := List.mem_map.mp hx
    exact (hp y hy).1
  have hcur : ∀ j, Flt (firstF (fN (Kp tl il z) z :: (l.map g).take j)) := fun j => firstF_flt fun x hx => by
    rcases List.mem_cons.mp hx with rfl | q
    · exact hr0
    · exact hgs x (List.mem_of_mem_take q)
  obtain ⟨env', s', hf, ⟨v5, rfl⟩, hs'⟩ := for_run (call := callF T n) (mk := callM T n) (sub := T.sub) (env := [some (.f (.str z)), some (.f (.tup l)), some (.loc t), some (.loc i), some (.f (fN (Kp tl il z) z)), none]) (s := s) (p := .one 5) (it := .seq (.v 1)) (b := [.ite (.cmp .is_ (.v 4) (.k .non)) [.set 4 (.calli i_fault_of_expression [(.v 5), (.v 2), (.v 3)])] []]) (items := l.map D.f) rfl
    (fun j env s' => (∃ v, env = [some (.f (.str z)), some (.f (.tup l)), some (.loc t), some (.loc i), some (.f (firstF (fN (Kp tl il z) z :: (l.map g).take j))), v]) ∧ s' = s)
    ⟨⟨none, by rw [List.take_zero, firstF_one hr0]⟩, rfl⟩ (fun j d env s2 hd ⟨⟨v, he⟩, hs2⟩ => by
      subst he; subst hs2
      rw [List.getElem?_map] at hd
      obtain ⟨x, hx, rfl⟩ : ∃ x, l[j]? = some x ∧ d = .f x := by
        cases e : l[j]? with
        | none => rw [e] at hd; cases hd
        | some x => rw [e] at hd; cases hd; exact ⟨x, rfl, rfl⟩
      obtain ⟨hj, hxe⟩ := List.getElem?_eq_some_iff.mp hx
      have hxl : x ∈ l := by rw [← hxe]; exact List.getElem_mem hj
      obtain ⟨fx, px⟩ := hp x hxl
      have et : (l.map g).take (j + 1) = (l.map g).take j ++ [g x] := by
        rw [List.take_succ, List.getElem?_map, hx]; rfl
      have hnew : firstF (fN (Kp tl il z) z :: (l.map g).take (j + 1)) = if isN (firstF (fN (Kp tl il z) z :: (l.map g).take j)) = true then g x else firstF (fN (Kp tl il z) z :: (l.map g).take j) := by
        rw [et, ← List.cons_append]
        exact firstF_snoc (fun y hy => by
          rcases List.mem_cons.mp hy with rfl | q
          · exact hr0
          · exact hgs y (List.mem_of_mem_take q)) fx
      rw [hnew]
      have hc := hcur j
      generalize firstF (fN (Kp tl il z) z :: (l.map g).take j) = cur at *
      have e := ev_isn (call := callF T n) (mk := callM T n) (env := [some (.f (.str z)), some (.f (.tup l)), some (.loc t), some (.loc i), some (.f cur), some (.f x)]) (s := s2) (k := 4) rfl hc
      have hcall := px s2 hs
      cases q : isN cur with
      | true =>
        rw [q] at e
        refine ⟨_, [some (.f (.str z)), some (.f (.tup l)), some (.loc t), some (.loc i), some (.f (g x)), some (.f x)], s2, rfl, .inl ?_, ⟨_, by rw [if_pos rfl]⟩, rfl⟩
        refine go_st [some (.f (.str z)), some (.f (.tup l)), some (.loc t), some (.loc i), some (.f (g x)), some (.f x)] s2 e ?_ z_nil
        refine set_st (.f (g x)) ?_ z_nil
        clear e hnew hc hp h0 hs hr0 hgs hcur et fx px hx hd hj hxe hxl
        (simp (disch := first | omega | assumption | rfl | (simp only [List.length_cons, List.length_nil, List.length_map, List.length_append, len_appS]; omega)) only [evA, evC, Nat.reduceAdd, Nat.reduceSub, Int.reduceLT, Int.reduceLE, Int.reduceNeg, Int.reduceToNat, Int.reducePow, Int.reduceAdd, Int.reduceMul, Int.reduceEq, Int.reduceSub, reduceIte, reduceCtorEq, *])
      | false =>
        rw [q] at e
        exact ⟨_, [some (.f (.str z)), some (.f (.tup l)), some (.loc t), some (.loc i), some (.f cur), some (.f x)], s2, rfl, .inl (no_st e z_nil), ⟨some (.f x), by rw [if_neg (by decide)]⟩, rfl⟩)
  subst hs'
  rw [List.length_map, List.take_of_length_le (by rw [List.length_map]; exact Nat.le_refl _)] at hf
  have hc := hcur l.length
  rw [List.take_of_length_le (by rw [List.length_map]; exact Nat.le_refl _)] at hc
  have key : exSs (callF T n) (callM T n) T.sub F_fault_of_call.body (startE F_fault_of_call.nsl [.f (.str z), .f (.tup l), .loc t, .loc i]) s' = .rt (.f (cF (Kp tl il z) z (l.map g) l.length)) s' := by
    refine set_st (.f (fN (Kp tl il z) z)) (by clear hf hc hcur hgs hr0 hp hs; (simp (disch := first | omega | assumption | rfl | (simp only [List.length_cons, List.length_nil, List.length_map, List.length_append, len_appS]; omega)) only [evA, evC, Nat.reduceAdd, Nat.reduceSub, Int.reduceLT, Int.reduceLE, Int.reduceNeg, Int.reduceToNat, Int.reducePow, Int.reduceAdd, Int.reduceMul, Int.reduceEq, Int.reduceSub, reduceIte, reduceCtorEq, *])) (run_st _ _ hf ?_)
    clear hf h0 hp hcur hgs
    have e := ev_isn (call := callF T n) (mk := callM T n) (env := [some (.f (.str z)), some (.f (.tup l)), some (.loc t), some (.loc i), some (.f (firstF (fN (Kp tl il z) z :: l.map g))), v5]) (s := s') (k := 4) rfl hc
    show exSs (callF T n) (callM T n) T.sub [.ite (.and [(.cmp .is_ (.v 4) (.k .non)), (.cmp .ne (.bi .len [(.v 1)]) (.idx (.v 2) (.v 0)))]) [.ret (.tup [(.k (.str "count")), (.v 0)])] [], .ret (.v 4)] [some (.f (.str z)), some (.f (.tup l)), some (.loc t), some (.loc i), some (.f (firstF (fN (Kp tl il z) z :: l.map g))), v5] s' = _
    unfold cF
    cases q0 : isN (fN (Kp tl il z) z) with
    | false =>
      rw [firstF_no q0] at e ⊢
      rw [q0] at e
      rw [if_neg (by decide)]
      refine no_st ?_ (ret_go rfl)
      generalize E.cmp CO.is_ (.v 4) (.k .non) = e0 at *
      clear hc hr0 q0 hs
      (simp (disch := first | omega | assumption | rfl | (simp only [List.length_cons, List.length_nil, List.length_map, List.length_append, len_appS]; omega)) only [evA, evC, Nat.reduceAdd, Nat.reduceSub, Int.reduceLT, Int.reduceLE, Int.reduceNeg, Int.reduceToNat, Int.reducePow, Int.reduceAdd, Int.reduceMul, Int.reduceEq, Int.reduceSub, reduceIte, reduceCtorEq, *])
    | true =>
      rw [firstF_yes q0] at e hc ⊢
      rw [if_pos rfl]
      cases q1 : isN (firstF (l.map g)) with
      | false =>
        rw [q1] at e
        rw [if_neg (by decide)]
        refine no_st ?_ (ret_go rfl)
        generalize E.cmp CO.is_ (.v 4) (.k .non) = e0 at *
        clear hc hr0 q0 q1 hs
        (simp (disch := first | omega | assumption | rfl | (simp only [List.length_cons, List.length_nil, List.length_map, List.length_append, len_appS]; omega)) only [evA, evC, Nat.reduceAdd, Nat.reduceSub, Int.reduceLT, Int.reduceLE, Int.reduceNeg, Int.reduceToNat, Int.reducePow, Int.reduceAdd, Int.reduceMul, Int.reduceEq, Int.reduceSub, reduceIte, reduceCtorEq, *])
      | true =>
        rw [q1] at e
        rw [if_pos rfl]
        obtain ⟨c, hk, hc1⟩ := fN_non q0
        rw [hk]
        have hg : getK (topD tl) (.inr z : Key) = some (.f (.int c)) := by
          rw [getK_top]
          unfold Kp at hk
          split at hk
          · cases hk; exact absurd rfl hc1
          · rw [hk]; rfl
        have h3 := e_ixD hs.top z hg
        have hn := hc.isn q1
        show _ = O.rt (.f (if c = (l.length : Nat) then F.non else cntF z)) s'
        rw [hn] at e ⊢
        clear hg hk hc hr0 q0 q1 hs hn hc1
        generalize E.cmp CO.is_ (.v 4) (.k .non) = e0 at *
        by_cases hcl : c = (l.length : Nat)
        · rw [if_pos hcl]
          have d1 : decide (((l.length : Nat) : Int) = c) = true := decide_eq_true hcl.symm
          refine no_st ?_ (ret_go rfl)
          clear hcl
          (simp (disch := first | omega | assumption | rfl | (simp only [List.length_cons, List.length_nil, List.length_map, List.length_append, len_appS]; omega)) only [evA, evC, Nat.reduceAdd, Nat.reduceSub, Int.reduceLT, Int.reduceLE, Int.reduceNeg, Int.reduceToNat, Int.reducePow, Int.reduceAdd, Int.reduceMul, Int.reduceEq, Int.reduceSub, reduceIte, reduceCtorEq, *])
        · rw [if_neg hcl]
          have d1 : decide (((l.length : Nat) : Int) = c) = false := decide_eq_false fun q => hcl q.symm
          refine ite_yes ?_ (ret_go ?_)
          · clear hcl
            (simp (disch := first | omega | assumption | rfl | (simp only [List.length_cons, List.length_nil, List.length_map, List.length_append, len_appS]; omega)) only [evA, evC, Nat.reduceAdd, Nat.reduceSub, Int.reduceLT, Int.reduceLE, Int.reduceNeg, Int.reduceToNat, Int.reducePow, Int.reduceAdd, Int.reduceMul, Int.reduceEq, Int.reduceSub, reduceIte, reduceCtorEq, *])
          · clear d1 h3 e hcl
            (simp (disch := first | omega | assumption | rfl | (simp only [List.length_cons, List.length_nil, List.length_map, List.length_append, len_appS]; omega)) only [evA, evC, Nat.reduceAdd, Nat.reduceSub, Int.reduceLT, Int.reduceLE, Int.reduceNeg, Int.reduceToNat, Int.reducePow, Int.reduceAdd, Int.reduceMul, Int.reduceEq, Int.reduceSub, reduceIte, reduceCtorEq])
            rfl
  rw [key]; rfl
theorem o_flcall {n : Nat} {W : List Str} {DD : List (Str × Int)} (h : 2 ≤ n) (hD : DD.length ≤ 100000) (hc : ∀ p ∈ DD, 0 ≤ p.2) (g : F → F) (l : List F) (hl : l.length ≤ 100) (hp : ∀ x ∈ l, Flt (g x) ∧ Lf (n - 1) i__law_fault_of_expression W DD x (g x)) (z : Str) (s : Sto) :
    callF T n i__law_fault_of_call [.f (.str z), .f (.tup l), .f (.lst (W.map F.str)), .f (.lst (DD.map prF))] s = .ok (.f (cF (Kl W DD z) z (l.map g) l.length)) s := by
  obtain ⟨n, rfl⟩ : ∃ m, n = m + 1 := ⟨n - 1, by omega⟩
  simp only [Nat.add_sub_cancel] at hp
  rw [call_eq (F := F__law_fault_of_call) rfl rfl]
  have h1 := fun s => e_inLs z W s
  have lc := lc_map (call := callF T n) (mk := callM T n) (env := [some (.f (.str z)), some (.f (.tup l)), some (.f (.lst (W.map F.str))), some (.f (.lst (DD.map prF))), none, none, none, none, none]) (s := s) (it := .seq (.v 3)) (p := .tup [5, 6]) (c := some (.cmp .eq (.v 5) (.v 0))) (e := .v 6) (l := DD) (h := fun p => .f (prF p)) (g := fun p => if p.1 = z then some (.int p.2) else none)
    (by clear h1; rw [y_seq, x_v]; simp only [List.getElem?_cons_succ, List.getElem?_cons_zero, R.bind_ok, it_lst, List.map_map]; rfl)
    (fun p hp => ⟨_, rfl, by
      clear h1
      by_cases q : p.1 = z
      · rw [if_pos q]
        have d := decide_eq_true q
        exact turn_yes (by clear q; simp only [List.set_cons_succ, List.set_cons_zero, List.zip_cons_cons, List.zip_nil_right, List.foldl_cons, List.foldl_nil, List.map_cons, List.map_nil]; (simp (disch := first | omega | assumption | rfl | (simp only [List.length_cons, List.length_nil, List.length_map, List.length_append, len_appS]; omega)) only [evA, evC, Nat.reduceAdd, Nat.reduceSub, Int.reduceLT, Int.reduceLE, Int.reduceNeg, Int.reduceToNat, Int.reducePow, Int.reduceAdd, Int.reduceMul, Int.reduceEq, Int.reduceSub, reduceIte, reduceCtorEq, *])) rfl
      · rw [if_neg q]
        have d := decide_eq_false q
        exact turn_no (by clear q; simp only [List.set_cons_succ, List.set_cons_zero, List.zip_cons_cons, List.zip_nil_right, List.foldl_cons, List.foldl_nil, List.map_cons, List.map_nil]; (simp (disch := first | omega | assumption | rfl | (simp only [List.length_cons, List.length_nil, List.length_map, List.length_append, len_appS]; omega)) only [evA, evC, Nat.reduceAdd, Nat.reduceSub, Int.reduceLT, Int.reduceLE, Int.reduceNeg, Int.reduceToNat, Int.reducePow, Int.reduceAdd, Int.reduceMul, Int.reduceEq, Int.reduceSub, reduceIte, reduceCtorEq, *]))⟩) (by omega)
  have ld := e_eqNil (s := s) (DD.filterMap fun p => if p.1 = z then some (F.int p.2) else none) (by
    have : Ots (DD.filterMap fun p => if p.1 = z then some (F.int p.2) else none) = true := Ots_iff.mpr fun y hy => by
      obtain ⟨p, hp, e⟩ := List.mem_filterMap.mp hy
      split at e
      · cases e; rfl
      · cases e
    exact Ots.dat this)
  have hM := fm_find (fun p => F.int p.2) z DD
  generalize (DD.filterMap fun p => if p.1 = z then some (F.int p.2) else none) = M at *
  have hgs : ∀ x ∈ l.map g, Flt x := fun x hx => by
    obtain ⟨y, hy, rfl⟩ := List.mem_map.mp hx
    exact (hp y hy).1
  have key : exSs (callF T n) (callM T n) T.sub B__law_fault_of_call [some (.f (.str z)), some (.f (.tup l)), some (.f (.lst (W.map F.str))), some (.f (.lst (DD.map prF))), none, none, none, none, none] s = .rt (.f (cF (Kl W DD z) z (l.map g) l.length)) s := by
    refine set_st (.f (.lst M)) lc ?_
    clear lc
    show exSs (callF T n) (callM T n) T.sub (B__law_fault_of_call.drop 1) [some (.f (.str z)), some (.f (.tup l)), some (.f (.lst (W.map F.str))), some (.f (.lst (DD.map prF))), some (.f (.lst M)), none, none, none, none] s = _
    unfold Kl
    by_cases hi : z ∈ W
    · rw [if_pos hi]
      rw [decide_eq_true hi] at h1
      refine ite_yes ?_ (ret_go ?_)
      · clear hi hM ld hp hgs hc
        generalize W.map F.str = L at *
        generalize DD.map prF = L2 at *
        (simp (disch := first | omega | assumption | rfl | (simp only [List.length_cons, List.length_nil, List.length_map, List.length_append, len_appS]; omega)) only [evA, evC, Nat.reduceAdd, Nat.reduceSub, Int.reduceLT, Int.reduceLE, Int.reduceNeg, Int.reduceToNat, Int.reducePow, Int.reduceAdd, Int.reduceMul, Int.reduceEq, Int.reduceSub, reduceIte, reduceCtorEq, *])
      · have e : cF (some (-1)) z (l.map g) l.length = sortF z := rfl
        rw [e]
        clear hi hM ld hp hgs hc h1 e
        (simp (disch := first | omega | assumption | rfl | (simp only [List.length_cons, List.length_nil, List.length_map, List.length_append, len_appS]; omega)) only [evA, evC, Nat.reduceAdd, Nat.reduceSub, Int.reduceLT, Int.reduceLE, Int.reduceNeg, Int.reduceToNat, Int.reducePow, Int.reduceAdd, Int.reduceMul, Int.reduceEq, Int.reduceSub, reduceIte, reduceCtorEq])
        rfl
    · rw [if_neg hi]
      rw [decide_eq_false hi] at h1
      refine no_st ?_ ?_
      · clear hi hM ld hp hgs hc
        generalize W.map F.str = L at *
        generalize DD.map prF = L2 at *
        (simp (disch := first | omega | assumption | rfl | (simp only [List.length_cons, List.length_nil, List.length_map, List.length_append, len_appS]; omega)) only [evA, evC, Nat.reduceAdd, Nat.reduceSub, Int.reduceLT, Int.reduceLE, Int.reduceNeg, Int.reduceToNat, Int.reducePow, Int.reduceAdd, Int.reduceMul, Int.reduceEq, Int.reduceSub, reduceIte, reduceCtorEq, *])
      have e2 : ∀ env : Env', env[4]? = some (some (.f (.lst M))) → evE (callF T n) (callM T n) (.cmp .eq (.v 4) (.lst false [])) env s = .ok (.f (.bl M.isEmpty)) s := fun env he => by
        rw [x_cmp, x_v, he]
        exact ld
      clear h1 ld
      rcases hM with ⟨hk, hM⟩ | ⟨p, r, hpm, hz, hk, hM⟩
      · subst hM
        rw [hk]
        refine ite_yes (e2 _ rfl) (ret_go ?_)
        have e : cF none z (l.map g) l.length = unkF z := rfl
        rw [e]
        clear e hp hgs hc e2
        (simp (disch := first | omega | assumption | rfl | (simp only [List.length_cons, List.length_nil, List.length_map, List.length_append, len_appS]; omega)) only [evA, evC, Nat.reduceAdd, Nat.reduceSub, Int.reduceLT, Int.reduceLE, Int.reduceNeg, Int.reduceToNat, Int.reducePow, Int.reduceAdd, Int.reduceMul, Int.reduceEq, Int.reduceSub, reduceIte, reduceCtorEq])
        rfl
      · subst hM
        rw [hk]
        have hc' : p.2 ≠ -1 := by have := hc p hpm; omega
        refine no_st (e2 _ rfl) ?_
        clear e2
        have hf := for_first (call := callF T n) (mk := callM T n) (sub := T.sub) (env := [some (.f (.str z)), some (.f (.tup l)), some (.f (.lst (W.map F.str))), some (.f (.lst (DD.map prF))), some (.f (.lst (.int p.2 :: r))), none, none, none, none]) (s := s) (p := .one 7) (it := .seq (.v 1)) (b := [.set 8 (.call i__law_fault_of_expression [(.v 7), (.v 2), (.v 3)]), .ite (.cmp .nis (.v 8) (.k .non)) [.ret (.v 8)] []]) (items := l.map D.f) rfl
          (fun d => match d with | .f x => g x | _ => .non) (fun env => ∃ v w, env = [some (.f (.str z)), some (.f (.tup l)), some (.f (.lst (W.map F.str))), some (.f (.lst (DD.map prF))), some (.f (.lst (.int p.2 :: r))), none, none, v, w]) ⟨none, none, rfl⟩ (fun d hd env ⟨v, w, he⟩ => by
            subst he
            obtain ⟨x, hx, rfl⟩ := List.mem_map.mp hd
            obtain ⟨fx, px⟩ := hp x hx
            have px := fun s => px s
            refine ⟨[some (.f (.str z)), some (.f (.tup l)), some (.f (.lst (W.map F.str))), some (.f (.lst (DD.map prF))), some (.f (.lst (.int p.2 :: r))), none, none, some (.f x), w], rfl, ?_⟩
            have e := ev_nis (call := callF T n) (mk := callM T n) (env := [some (.f (.str z)), some (.f (.tup l)), some (.f (.lst (W.map F.str))), some (.f (.lst (DD.map prF))), some (.f (.lst (.int p.2 :: r))), none, none, some (.f x), some (.f (g x))]) (s := s) (k := 8) rfl fx
            show (isN (g x) = true ∧ _) ∨ (isN (g x) = false ∧ _)
            have m1 : evE (callF T n) (callM T n) (.call i__law_fault_of_expression [(.v 7), (.v 2), (.v 3)]) [some (.f (.str z)), some (.f (.tup l)), some (.f (.lst (W.map F.str))), some (.f (.lst (DD.map prF))), some (.f (.lst (.int p.2 :: r))), none, none, some (.f x), w] s = .ok (.f (g x)) s := by
              clear e hp hgs hc hd hx fx
              generalize W.map F.str = L at *
              generalize DD.map prF = L2 at *
              (simp (disch := first | omega | assumption | rfl | (simp only [List.length_cons, List.length_nil, List.length_map, List.length_append, len_appS]; omega)) only [evA, evC, Nat.reduceAdd, Nat.reduceSub, Int.reduceLT, Int.reduceLE, Int.reduceNeg, Int.reduceToNat, Int.reducePow, Int.reduceAdd, Int.reduceMul, Int.reduceEq, Int.reduceSub, reduceIte, reduceCtorEq, *])
            cases q : isN (g x) with
            | true =>
              rw [q] at e
              exact .inl ⟨rfl, _, set_st (.f (g x)) m1 (no_st e z_nil), _, _, rfl⟩
            | false =>
              rw [q] at e
              exact .inr ⟨rfl, set_st (.f (g x)) m1 (ite_yes e (ret_go rfl))⟩)
        have em : (l.map D.f).map (fun d => match d with | .f x => g x | _ => .non) = l.map g := by
          rw [List.map_map]; rfl
        rw [em] at hf
        have q0 : isN (fN (some p.2) z) = true := by
          have e : fN (some p.2) z = .non := by unfold fN; simp only [if_neg hc']
          rw [e]; rfl
        unfold cF
        rw [if_pos q0]
        rcases hf with ⟨q, env', hf, v, w, rfl⟩ | ⟨q, hf⟩
        · rw [if_pos q]
          refine run_st _ _ hf ?_
          clear hf hp hgs q0 hc hk
          show exSs (callF T n) (callM T n) T.sub [.ite (.cmp .ne (.idx (.v 4) (.k (.int 0))) (.bi .len [(.v 1)])) [.ret (.tup [(.k (.str "count")), (.v 0)])] [], .ret (.k .non)] [some (.f (.str z)), some (.f (.tup l)), some (.f (.lst (W.map F.str))), some (.f (.lst (DD.map prF))), some (.f (.lst (.int p.2 :: r))), none, none, v, w] s = O.rt (.f (if p.2 = (l.length : Nat) then F.non else cntF z)) s
          generalize p.2 = c at *
          by_cases hcl : c = (l.length : Nat)
          · rw [if_pos hcl]
            have d1 : decide (c = ((l.length : Nat) : Int)) = true := decide_eq_true hcl
            refine no_st ?_ (ret_go rfl)
            clear hcl hc' q hpm
            generalize W.map F.str = L at *
            generalize DD.map prF = L2 at *
            (simp (disch := first | omega | assumption | rfl | (simp only [List.length_cons, List.length_nil, List.length_map, List.length_append, len_appS]; omega)) only [evA, evC, Nat.reduceAdd, Nat.reduceSub, Int.reduceLT, Int.reduceLE, Int.reduceNeg, Int.reduceToNat, Int.reducePow, Int.reduceAdd, Int.reduceMul, Int.reduceEq, Int.reduceSub, reduceIte, reduceCtorEq, *])
          · rw [if_neg hcl]
            have d1 : decide (c = ((l.length : Nat) : Int)) = false := decide_eq_false hcl
            refine ite_yes ?_ (ret_go ?_)
            · clear hcl hc' q hpm
              generalize W.map F.str = L at *
              generalize DD.map prF = L2 at *
              (simp (disch := first | omega | assumption | rfl | (simp only [List.length_cons, List.length_nil, List.length_map, List.length_append, len_appS]; omega)) only [evA, evC, Nat.reduceAdd, Nat.reduceSub, Int.reduceLT, Int.reduceLE, Int.reduceNeg, Int.reduceToNat, Int.reducePow, Int.reduceAdd, Int.reduceMul, Int.reduceEq, Int.reduceSub, reduceIte, reduceCtorEq, *])
            · clear d1 hcl q
              (simp (disch := first | omega | assumption | rfl | (simp only [List.length_cons, List.length_nil, List.length_map, List.length_append, len_appS]; omega)) only [evA, evC, Nat.reduceAdd, Nat.reduceSub, Int.reduceLT, Int.reduceLE, Int.reduceNeg, Int.reduceToNat, Int.reducePow, Int.reduceAdd, Int.reduceMul, Int.reduceEq, Int.reduceSub, reduceIte, reduceCtorEq])
              rfl
        · rw [if_neg (by rw [q]; decide)]
          exact ret_st hf
  show (exSs (callF T n) (callM T n) T.sub B__law_fault_of_call [some (.f (.str z)), some (.f (.tup l)), some (.f (.lst (W.map F.str))), some (.f (.lst (DD.map prF))), none, none, none, none, none] s).res = _
  rw [key]; rfl


end K11

namespace K11
open PySem JM L2
/-! ### more parts of lists -/
theorem cut_any {α : Type} (l : List α) (i j : Nat) : cutL l (some (i : Int)) (some (j : Int)) = (l.drop i).take (j - i) := by
  unfold cutL
  rw [HT.sIx_nat, HT.sIx_nat]
  by_cases hi : i ≤ l.length
  · rw [Nat.min_eq_left hi]
    by_cases hj : j ≤ l.length
    · rw [Nat.min_eq_left hj]
    · rw [Nat.min_eq_right (by omega), List.take_of_length_le (by rw [List.length_drop]; exact Nat.le_refl _), List.take_of_length_le (by rw [List.length_drop]; omega)]
  · have e : min i l.length = l.length := Nat.min_eq_right (by omega)
    rw [e, List.drop_of_length_le (Nat.le_refl _), List.drop_of_length_le (by omega)]; simp
theorem cut_drop2 {α : Type} (l : List α) (i : Nat) : cutL l (some (i : Int)) none = l.drop i := by
  by_cases h : i ≤ l.length
  · exact cut_drop l i h
  · unfold cutL
    rw [HT.sIx_nat, Nat.min_eq_right (by omega), List.drop_of_length_le (Nat.le_refl _), List.drop_of_length_le (by omega)]; simp


end K11

namespace K11
open PySem JM L2
/-! ### expressions, blocks: both sides -/
theorem sign_ne : ∀ t ∈ signs, ¬ t = Str.ofString "number" ∧ ¬ t = Str.ofString "name" ∧ ¬ t = Str.ofString "call" := by decide
theorem ne_nn : decide (Str.ofString "name" = Str.ofString "number") = false := by decide
theorem ne_cn : decide (Str.ofString "call" = Str.ofString "number") = false := by decide
theorem ne_ca : decide (Str.ofString "call" = Str.ofString "name") = false := by decide
structure Mn (tl : List (Str × Int)) (il : List Str) (W : List Str) (DD : List (Str × Int)) : Prop where
  same : ∀ z, Kp tl il z = Kl W DD z
  len : DD.length ≤ 100000
  pos : ∀ p ∈ DD, 0 ≤ p.2
/-- the program and the law find the same -/
def Bo (n fp fl t i : Nat) (tl : List (Str × Int)) (il : List Str) (W : List Str) (DD : List (Str × Int)) (x r : F) : Prop := Flt r ∧ Pf n fp t i tl il x r ∧ Lf n fl W DD x r
theorem o_fe {nm dd : List F} {t i : Nat} {tl : List (Str × Int)} {il : List Str} {W : List Str} {DD : List (Str × Int)} (hM : Mn tl il W DD) (hdd : Dds dd) {d : Nat} {y : F} (hx : Xp nm dd d y) : ∃ r, Flt r ∧ ∀ n, 2 * d + 3 ≤ n → Pf n i_fault_of_expression t i tl il y r ∧ Lf n i__law_fault_of_expression W DD y r := by
  induction hx with
  | num d k hk =>
    refine ⟨.non, flt_non, fun n hn => ?_⟩
    obtain ⟨n, rfl⟩ : ∃ m, n = m + 1 := ⟨n - 1, by omega⟩
    refine ⟨fun s hs => ?_, fun s => ?_⟩
    · rw [call_eq (F := F_fault_of_expression) rfl rfl]
      have key : exSs (callF T n) (callM T n) T.sub F_fault_of_expression.body (startE F_fault_of_expression.nsl [.f (.tup [.str "number", .int k]), .loc t, .loc i]) s = .rt (.f .non) s := ite_yes (by clear hs; (simp (disch := first | omega | assumption | rfl | (simp only [List.length_cons, List.length_nil, List.length_map, List.length_append, len_appS]; omega)) only [evA, evC, Nat.reduceAdd, Nat.reduceSub, Int.reduceLT, Int.reduceLE, Int.reduceNeg, Int.reduceToNat, Int.reducePow, Int.reduceAdd, Int.reduceMul, Int.reduceEq, Int.reduceSub, reduceIte, reduceCtorEq, *])) (ret_go rfl)
      rw [key]; rfl
    · rw [call_eq (F := F__law_fault_of_expression) rfl rfl]
      generalize W.map F.str = L
      generalize DD.map prF = L2
      have key : exSs (callF T n) (callM T n) T.sub F__law_fault_of_expression.body (startE F__law_fault_of_expression.nsl [.f (.tup [.str "number", .int k]), .f (.lst L), .f (.lst L2)]) s = .rt (.f .non) s := ite_yes (by (simp (disch := first | omega | assumption | rfl | (simp only [List.length_cons, List.length_nil, List.length_map, List.length_append, len_appS]; omega)) only [evA, evC, Nat.reduceAdd, Nat.reduceSub, Int.reduceLT, Int.reduceLE, Int.reduceNeg, Int.reduceToNat, Int.reducePow, Int.reduceAdd, Int.reduceMul, Int.reduceEq, Int.reduceSub, reduceIte, reduceCtorEq])) (ret_go rfl)
      rw [key]; rfl
  | nam d z hz =>
    have d1 := ne_nn
    refine ⟨fW (Kp tl il z) z, fW_flt _ _, fun n hn => ?_⟩
    obtain ⟨n, rfl⟩ : ∃ m, n = m + 1 := ⟨n - 1, by omega⟩
    refine ⟨fun s hs => ?_, fun s => ?_⟩
    · rw [call_eq (F := F_fault_of_expression) rfl rfl]
      have h1 := o_fword (n := n) (by omega) hs z
      clear hs
      have key : exSs (callF T n) (callM T n) T.sub F_fault_of_expression.body (startE F_fault_of_expression.nsl [.f (.tup [.str "name", .str z]), .loc t, .loc i]) s = .rt (.f (fW (Kp tl il z) z)) s := no_st (by clear h1; (simp (disch := first | omega | assumption | rfl | (simp only [List.length_cons, List.length_nil, List.length_map, List.length_append, len_appS]; omega)) only [evA, evC, Nat.reduceAdd, Nat.reduceSub, Int.reduceLT, Int.reduceLE, Int.reduceNeg, Int.reduceToNat, Int.reducePow, Int.reduceAdd, Int.reduceMul, Int.reduceEq, Int.reduceSub, reduceIte, reduceCtorEq, *])) (ite_yes (by clear h1; (simp (disch := first | omega | assumption | rfl | (simp only [List.length_cons, List.length_nil, List.length_map, List.length_append, len_appS]; omega)) only [evA, evC, Nat.reduceAdd, Nat.reduceSub, Int.reduceLT, Int.reduceLE, Int.reduceNeg, Int.reduceToNat, Int.reducePow, Int.reduceAdd, Int.reduceMul, Int.reduceEq, Int.reduceSub, reduceIte, reduceCtorEq, *])) (ret_go (by (simp (disch := first | omega | assumption | rfl | (simp only [List.length_cons, List.length_nil, List.length_map, List.length_append, len_appS]; omega)) only [evA, evC, Nat.reduceAdd, Nat.reduceSub, Int.reduceLT, Int.reduceLE, Int.reduceNeg, Int.reduceToNat, Int.reducePow, Int.reduceAdd, Int.reduceMul, Int.reduceEq, Int.reduceSub, reduceIte, reduceCtorEq, *]))))
      rw [key]; rfl
    · rw [call_eq (F := F__law_fault_of_expression) rfl rfl]
      have h1 := fun s => o_flword (n := n) (by omega) W DD hM.len hM.pos z s
      rw [← hM.same] at h1
      generalize W.map F.str = L at *
      generalize DD.map prF = L2 at *
      have key : exSs (callF T n) (callM T n) T.sub F__law_fault_of_expression.body (startE F__law_fault_of_expression.nsl [.f (.tup [.str "name", .str z]), .f (.lst L), .f (.lst L2)]) s = .rt (.f (fW (Kp tl il z) z)) s := no_st (by clear h1; (simp (disch := first | omega | assumption | rfl | (simp only [List.length_cons, List.length_nil, List.length_map, List.length_append, len_appS]; omega)) only [evA, evC, Nat.reduceAdd, Nat.reduceSub, Int.reduceLT, Int.reduceLE, Int.reduceNeg, Int.reduceToNat, Int.reducePow, Int.reduceAdd, Int.reduceMul, Int.reduceEq, Int.reduceSub, reduceIte, reduceCtorEq, *])) (ite_yes (by clear h1; (simp (disch := first | omega | assumption | rfl | (simp only [List.length_cons, List.length_nil, List.length_map, List.length_append, len_appS]; omega)) only [evA, evC, Nat.reduceAdd, Nat.reduceSub, Int.reduceLT, Int.reduceLE, Int.reduceNeg, Int.reduceToNat, Int.reducePow, Int.reduceAdd, Int.reduceMul, Int.reduceEq, Int.reduceSub, reduceIte, reduceCtorEq, *])) (ret_go (by (simp (disch := first | omega | assumption | rfl | (simp only [List.length_cons, List.length_nil, List.length_map, List.length_append, len_appS]; omega)) only [evA, evC, Nat.reduceAdd, Nat.reduceSub, Int.reduceLT, Int.reduceLE, Int.reduceNeg, Int.reduceToNat, Int.reducePow, Int.reduceAdd, Int.reduceMul, Int.reduceEq, Int.reduceSub, reduceIte, reduceCtorEq, *]))))
      rw [key]; rfl
  | call d z cnt l hz hl hxl ih =>
    have d1 := ne_cn
    have d2 := ne_ca
    obtain ⟨g, hg⟩ := pickF (l := l) (Q := fun x r => Flt r ∧ ∀ n, 2 * d + 3 ≤ n → Pf n i_fault_of_expression t i tl il x r ∧ Lf n i__law_fault_of_expression W DD x r) fun x hx => ih x hx
    have l4 : l.length ≤ 100 := by
      obtain ⟨z2, c2, e2, _, _, h4⟩ := hdd.2 _ hz
      cases e2
      omega
    refine ⟨cF (Kp tl il z) z (l.map g) l.length, cF_flt fun x hx => by
      obtain ⟨y, hy, rfl⟩ := List.mem_map.mp hx
      exact (hg y hy).1, fun n hn => ?_⟩
    obtain ⟨n, rfl⟩ : ∃ m, n = m + 1 := ⟨n - 1, by omega⟩
    refine ⟨fun s hs => ?_, fun s => ?_⟩
    · rw [call_eq (F := F_fault_of_expression) rfl rfl]
      have h1 := o_fcall (n := n) (by omega) g l l4 (fun x hx => ⟨(hg x hx).1, ((hg x hx).2 _ (by omega)).1⟩) z hs
      clear hs hg ih hxl
      have key : exSs (callF T n) (callM T n) T.sub F_fault_of_expression.body (startE F_fault_of_expression.nsl [.f (.tup [.str "call", .str z, .tup l]), .loc t, .loc i]) s = .rt (.f (cF (Kp tl il z) z (l.map g) l.length)) s := no_st (by clear h1; (simp (disch := first | omega | assumption | rfl | (simp only [List.length_cons, List.length_nil, List.length_map, List.length_append, len_appS]; omega)) only [evA, evC, Nat.reduceAdd, Nat.reduceSub, Int.reduceLT, Int.reduceLE, Int.reduceNeg, Int.reduceToNat, Int.reducePow, Int.reduceAdd, Int.reduceMul, Int.reduceEq, Int.reduceSub, reduceIte, reduceCtorEq, *])) (no_st (by clear h1; (simp (disch := first | omega | assumption | rfl | (simp only [List.length_cons, List.length_nil, List.length_map, List.length_append, len_appS]; omega)) only [evA, evC, Nat.reduceAdd, Nat.reduceSub, Int.reduceLT, Int.reduceLE, Int.reduceNeg, Int.reduceToNat, Int.reducePow, Int.reduceAdd, Int.reduceMul, Int.reduceEq, Int.reduceSub, reduceIte, reduceCtorEq, *])) (ite_yes (by clear h1; (simp (disch := first | omega | assumption | rfl | (simp only [List.length_cons, List.length_nil, List.length_map, List.length_append, len_appS]; omega)) only [evA, evC, Nat.reduceAdd, Nat.reduceSub, Int.reduceLT, Int.reduceLE, Int.reduceNeg, Int.reduceToNat, Int.reducePow, Int.reduceAdd, Int.reduceMul, Int.reduceEq, Int.reduceSub, reduceIte, reduceCtorEq, *])) (ret_go (by (simp (disch := first | omega | assumption | rfl | (simp only [List.length_cons, List.length_nil, List.length_map, List.length_append, len_appS]; omega)) only [evA, evC, Nat.reduceAdd, Nat.reduceSub, Int.reduceLT, Int.reduceLE, Int.reduceNeg, Int.reduceToNat, Int.reducePow, Int.reduceAdd, Int.reduceMul, Int.reduceEq, Int.reduceSub, reduceIte, reduceCtorEq, *])))))
      rw [key]; rfl
    · rw [call_eq (F := F__law_fault_of_expression) rfl rfl]
      have h1 := fun s => o_flcall (n := n) (by omega) hM.len hM.pos g l l4 (fun x hx => ⟨(hg x hx).1, ((hg x hx).2 _ (by omega)).2⟩) z s
      rw [← hM.same] at h1
      clear hg ih hxl
      generalize W.map F.str = L at *
      generalize DD.map prF = L2 at *
      have key : exSs (callF T n) (callM T n) T.sub F__law_fault_of_expression.body (startE F__law_fault_of_expression.nsl [.f (.tup [.str "call", .str z, .tup l]), .f (.lst L), .f (.lst L2)]) s = .rt (.f (cF (Kp tl il z) z (l.map g) l.length)) s := no_st (by clear h1; (simp (disch := first | omega | assumption | rfl | (simp only [List.length_cons, List.length_nil, List.length_map, List.length_append, len_appS]; omega)) only [evA, evC, Nat.reduceAdd, Nat.reduceSub, Int.reduceLT, Int.reduceLE, Int.reduceNeg, Int.reduceToNat, Int.reducePow, Int.reduceAdd, Int.reduceMul, Int.reduceEq, Int.reduceSub, reduceIte, reduceCtorEq, *])) (no_st (by clear h1; (simp (disch := first | omega | assumption | rfl | (simp only [List.length_cons, List.length_nil, List.length_map, List.length_append, len_appS]; omega)) only [evA, evC, Nat.reduceAdd, Nat.reduceSub, Int.reduceLT, Int.reduceLE, Int.reduceNeg, Int.reduceToNat, Int.reducePow, Int.reduceAdd, Int.reduceMul, Int.reduceEq, Int.reduceSub, reduceIte, reduceCtorEq, *])) (ite_yes (by clear h1; (simp (disch := first | omega | assumption | rfl | (simp only [List.length_cons, List.length_nil, List.length_map, List.length_append, len_appS]; omega)) only [evA, evC, Nat.reduceAdd, Nat.reduceSub, Int.reduceLT, Int.reduceLE, Int.reduceNeg, Int.reduceToNat, Int.reducePow, Int.reduceAdd, Int.reduceMul, Int.reduceEq, Int.reduceSub, reduceIte, reduceCtorEq, *])) (ret_go (by (simp (disch := first | omega | assumption | rfl | (simp only [List.length_cons, List.length_nil, List.length_map, List.length_append, len_appS]; omega)) only [evA, evC, Nat.reduceAdd, Nat.reduceSub, Int.reduceLT, Int.reduceLE, Int.reduceNeg, Int.reduceToNat, Int.reducePow, Int.reduceAdd, Int.reduceMul, Int.reduceEq, Int.reduceSub, reduceIte, reduceCtorEq, *])))))
      rw [key]; rfl
  | op d w a b hw ha hb iha ihb =>
    obtain ⟨n1, n2, n3⟩ := sign_ne w hw
    have d1 : decide (w = Str.ofString "number") = false := decide_eq_false n1
    have d2 : decide (w = Str.ofString "name") = false := decide_eq_false n2
    have d3 : decide (w = Str.ofString "call") = false := decide_eq_false n3
    clear n1 n2 n3 hw
    obtain ⟨g, hg0⟩ := pickF (l := [a, b]) (Q := fun x r => Flt r ∧ ∀ n, 2 * d + 3 ≤ n → Pf n i_fault_of_expression t i tl il x r ∧ Lf n i__law_fault_of_expression W DD x r) fun x hx => by
      rcases List.mem_cons.mp hx with rfl | hx
      · exact iha
      · rw [List.mem_singleton.mp hx]; exact ihb
    have fa := (hg0 a (by simp)).1
    have fb := (hg0 b (by simp)).1
    have hr : ∀ x ∈ [g a, g b], Flt x := fun x hx => by
      rcases List.mem_cons.mp hx with rfl | hx
      · exact fa
      · rw [List.mem_singleton.mp hx]; exact fb
    refine ⟨firstF [g a, g b], firstF_flt hr, fun n hn => ?_⟩
    obtain ⟨n, rfl⟩ : ∃ m, n = m + 1 := ⟨n - 1, by omega⟩
    have hg : ∀ x ∈ [a, b], Flt (g x) ∧ Pf n i_fault_of_expression t i tl il x (g x) ∧ Lf n i__law_fault_of_expression W DD x (g x) := fun x hx => ⟨(hg0 x hx).1, (hg0 x hx).2 n (by omega)⟩
    clear hg0
    obtain ⟨_, pa, la⟩ := hg a (by simp)
    obtain ⟨_, pb, lb⟩ := hg b (by simp)
    refine ⟨fun s hs => ?_, fun s => ?_⟩
    · rw [call_eq (F := F_fault_of_expression) rfl rfl]
      have pa := pa s hs
      have pb := pb s hs
      clear hs hg la lb iha ihb ha hb hr
      have key : exSs (callF T n) (callM T n) T.sub F_fault_of_expression.body (startE F_fault_of_expression.nsl [.f (.tup [.str w, a, b]), .loc t, .loc i]) s = .rt (.f (firstF [g a, g b])) s := by
        refine no_st (by clear pa pb fa fb d2 d3; (simp (disch := first | omega | assumption | rfl | (simp only [List.length_cons, List.length_nil, List.length_map, List.length_append, len_appS]; omega)) only [evA, evC, Nat.reduceAdd, Nat.reduceSub, Int.reduceLT, Int.reduceLE, Int.reduceNeg, Int.reduceToNat, Int.reducePow, Int.reduceAdd, Int.reduceMul, Int.reduceEq, Int.reduceSub, reduceIte, reduceCtorEq, *])) (no_st (by clear pa pb fa fb d1 d3; (simp (disch := first | omega | assumption | rfl | (simp only [List.length_cons, List.length_nil, List.length_map, List.length_append, len_appS]; omega)) only [evA, evC, Nat.reduceAdd, Nat.reduceSub, Int.reduceLT, Int.reduceLE, Int.reduceNeg, Int.reduceToNat, Int.reducePow, Int.reduceAdd, Int.reduceMul, Int.reduceEq, Int.reduceSub, reduceIte, reduceCtorEq, *])) (no_st (by clear pa pb fa fb d1 d2; (simp (disch := first | omega | assumption | rfl | (simp only [List.length_cons, List.length_nil, List.length_map, List.length_append, len_appS]; omega)) only [evA, evC, Nat.reduceAdd, Nat.reduceSub, Int.reduceLT, Int.reduceLE, Int.reduceNeg, Int.reduceToNat, Int.reducePow, Int.reduceAdd, Int.reduceMul, Int.reduceEq, Int.reduceSub, reduceIte, reduceCtorEq, *])) (set_st (.f (g a)) (by clear pb fa fb d1 d2 d3; (simp (disch := first | omega | assumption | rfl | (simp only [List.length_cons, List.length_nil, List.length_map, List.length_append, len_appS]; omega)) only [evA, evC, Nat.reduceAdd, Nat.reduceSub, Int.reduceLT, Int.reduceLE, Int.reduceNeg, Int.reduceToNat, Int.reducePow, Int.reduceAdd, Int.reduceMul, Int.reduceEq, Int.reduceSub, reduceIte, reduceCtorEq, *])) ?_)))
        have e := ev_isn (call := callF T n) (mk := callM T n) (env := [some (.f (.tup [.str w, a, b])), some (.loc t), some (.loc i), some (.f (g a))]) (s := s) (k := 3) rfl fa
        cases q : isN (g a) with
        | true =>
          rw [q] at e
          rw [firstF_yes q, firstF_one fb]
          refine go_st [some (.f (.tup [.str w, a, b])), some (.loc t), some (.loc i), some (.f (g b))] s e ?_ (ret_go rfl)
          exact set_st (.f (g b)) (by clear e pa fa fb d1 d2 d3 q; (simp (disch := first | omega | assumption | rfl | (simp only [List.length_cons, List.length_nil, List.length_map, List.length_append, len_appS]; omega)) only [evA, evC, Nat.reduceAdd, Nat.reduceSub, Int.reduceLT, Int.reduceLE, Int.reduceNeg, Int.reduceToNat, Int.reducePow, Int.reduceAdd, Int.reduceMul, Int.reduceEq, Int.reduceSub, reduceIte, reduceCtorEq, *])) z_nil
        | false =>
          rw [q] at e
          rw [firstF_no q]
          exact no_st e (ret_go rfl)
      rw [key]; rfl
    · rw [call_eq (F := F__law_fault_of_expression) rfl rfl]
      have h1 := fun s => o_first (n := n) (by omega) [g a, g b] hr s
      have lc := lc_map (call := callF T n) (mk := callM T n) (env := [some (.f (.tup [.str w, a, b])), some (.f (.lst (W.map F.str))), some (.f (.lst (DD.map prF))), none]) (s := s) (it := .seq (.sl false (.v 0) (some (.k (.int 1))) none)) (p := .one 3) (c := none) (e := .call i__law_fault_of_expression [(.v 3), (.v 1), (.v 2)]) (l := [a, b]) (h := fun x => .f x) (g := fun x => some (g x))
        (by
          have e : cutL [F.str w, a, b] (some 1) none = [a, b] := cut_drop2 [F.str w, a, b] 1
          clear h1 hg fa pa la fb pb lb hr iha ihb ha hb d1 d2 d3
          generalize W.map F.str = L at *
          generalize DD.map prF = L2 at *
          (simp (disch := first | omega | assumption | rfl | (simp only [List.length_cons, List.length_nil, List.length_map, List.length_append, len_appS]; omega)) only [evA, evC, Nat.reduceAdd, Nat.reduceSub, Int.reduceLT, Int.reduceLE, Int.reduceNeg, Int.reduceToNat, Int.reducePow, Int.reduceAdd, Int.reduceMul, Int.reduceEq, Int.reduceSub, reduceIte, reduceCtorEq])
          rw [e]
          rfl)
        (fun x hx => ⟨_, rfl, turn_none (by
          have h2 := (hg x hx).2.2
          have h2 := fun s => h2 s
          clear h1 hg fa pa la fb pb lb hr iha ihb ha hb d1 d2 d3 hx
          generalize W.map F.str = L at *
          generalize DD.map prF = L2 at *
          (simp (disch := first | omega | assumption | rfl | (simp only [List.length_cons, List.length_nil, List.length_map, List.length_append, len_appS]; omega)) only [evA, evC, Nat.reduceAdd, Nat.reduceSub, Int.reduceLT, Int.reduceLE, Int.reduceNeg, Int.reduceToNat, Int.reducePow, Int.reduceAdd, Int.reduceMul, Int.reduceEq, Int.reduceSub, reduceIte, reduceCtorEq, *]))⟩) (by simp)
      rw [fm_some] at lc
      have lc : evE (callF T n) (callM T n) (.lc false (.seq (.sl false (.v 0) (some (.k (.int 1))) none)) (.one 3) none (.call i__law_fault_of_expression [(.v 3), (.v 1), (.v 2)])) [some (.f (.tup [.str w, a, b])), some (.f (.lst (W.map F.str))), some (.f (.lst (DD.map prF))), none] s = .ok (.f (.lst [g a, g b])) s := lc
      clear hg fa pa la fb pb lb hr iha ihb ha hb
      generalize W.map F.str = L at *
      generalize DD.map prF = L2 at *
      have key : exSs (callF T n) (callM T n) T.sub F__law_fault_of_expression.body (startE F__law_fault_of_expression.nsl [.f (.tup [.str w, a, b]), .f (.lst L), .f (.lst L2)]) s = .rt (.f (firstF [g a, g b])) s := by
        refine no_st (by clear h1 lc d2 d3; (simp (disch := first | omega | assumption | rfl | (simp only [List.length_cons, List.length_nil, List.length_map, List.length_append, len_appS]; omega)) only [evA, evC, Nat.reduceAdd, Nat.reduceSub, Int.reduceLT, Int.reduceLE, Int.reduceNeg, Int.reduceToNat, Int.reducePow, Int.reduceAdd, Int.reduceMul, Int.reduceEq, Int.reduceSub, reduceIte, reduceCtorEq, *])) (no_st (by clear h1 lc d1 d3; (simp (disch := first | omega | assumption | rfl | (simp only [List.length_cons, List.length_nil, List.length_map, List.length_append, len_appS]; omega)) only [evA, evC, Nat.reduceAdd, Nat.reduceSub, Int.reduceLT, Int.reduceLE, Int.reduceNeg, Int.reduceToNat, Int.reducePow, Int.reduceAdd, Int.reduceMul, Int.reduceEq, Int.reduceSub, reduceIte, reduceCtorEq, *])) (no_st (by clear h1 lc d1 d2; (simp (disch := first | omega | assumption | rfl | (simp only [List.length_cons, List.length_nil, List.length_map, List.length_append, len_appS]; omega)) only [evA, evC, Nat.reduceAdd, Nat.reduceSub, Int.reduceLT, Int.reduceLE, Int.reduceNeg, Int.reduceToNat, Int.reducePow, Int.reduceAdd, Int.reduceMul, Int.reduceEq, Int.reduceSub, reduceIte, reduceCtorEq, *])) (ret_go ?_)))
        clear d1 d2 d3
        generalize firstF [g a, g b] = r at *
        generalize [g a, g b] = rs at *
        show evE (callF T n) (callM T n) (.call i__law_first [(.lc false (.seq (.sl false (.v 0) (some (.k (.int 1))) none)) (.one 3) none (.call i__law_fault_of_expression [(.v 3), (.v 1), (.v 2)]))]) [some (.f (.tup [.str w, a, b])), some (.f (.lst L)), some (.f (.lst L2)), none] s = _
        generalize E.lc _ _ _ _ _ = e0 at lc ⊢
        (simp (disch := first | omega | assumption | rfl | (simp only [List.length_cons, List.length_nil, List.length_map, List.length_append, len_appS]; omega)) only [evA, evC, Nat.reduceAdd, Nat.reduceSub, Int.reduceLT, Int.reduceLE, Int.reduceNeg, Int.reduceToNat, Int.reducePow, Int.reduceAdd, Int.reduceMul, Int.reduceEq, Int.reduceSub, reduceIte, reduceCtorEq, *])
      rw [key]; rfl
theorem o_fblk {n t i : Nat} {tl : List (Str × Int)} {il : List Str} (h : 1 ≤ n) (g : F → F) (l : List F) (hp : ∀ x ∈ l, Flt (g x) ∧ Pf (n - 1) i_fault_of_statement t i tl il x (g x)) : Pf n i_fault_of_block t i tl il (.tup l) (firstF (l.map g)) := by
  intro s hs
  obtain ⟨n, rfl⟩ : ∃ m, n = m + 1 := ⟨n - 1, by omega⟩
  simp only [Nat.add_sub_cancel] at hp
  rw [call_eq (F := F_fault_of_block) rfl rfl]
  have hgs : ∀ x ∈ l.map g, Flt x := fun x hx => by
    obtain ⟨y, hy, rfl⟩ := List.mem_map.mp hx
    exact (hp y hy).1
  have hf := for_first (call := callF T n) (mk := callM T n) (sub := T.sub) (env := [some (.f (.tup l)), some (.loc t), some (.loc i), none, none]) (s := s) (p := .one 3) (it := .seq (.v 0)) (b := [.set 4 (.calli i_fault_of_statement [(.v 3), (.v 1), (.v 2)]), .ite (.cmp .nis (.v 4) (.k .non)) [.ret (.v 4)] []]) (items := l.map D.f) rfl
    (fun d => match d with | .f x => g x | _ => .non) (fun env => ∃ v w, env = [some (.f (.tup l)), some (.loc t), some (.loc i), v, w]) ⟨none, none, rfl⟩ (fun d hd env ⟨v, w, he⟩ => by
      subst he
      obtain ⟨x, hx, rfl⟩ := List.mem_map.mp hd
      obtain ⟨fx, px⟩ := hp x hx
      have px := px s hs
      refine ⟨[some (.f (.tup l)), some (.loc t), some (.loc i), some (.f x), w], rfl, ?_⟩
      have e := ev_nis (call := callF T n) (mk := callM T n) (env := [some (.f (.tup l)), some (.loc t), some (.loc i), some (.f x), some (.f (g x))]) (s := s) (k := 4) rfl fx
      show (isN (g x) = true ∧ _) ∨ (isN (g x) = false ∧ _)
      have m1 : evE (callF T n) (callM T n) (.calli i_fault_of_statement [(.v 3), (.v 1), (.v 2)]) [some (.f (.tup l)), some (.loc t), some (.loc i), some (.f x), w] s = .ok (.f (g x)) s := by
        clear e hp hgs hd hx fx hs
        (simp (disch := first | omega | assumption | rfl | (simp only [List.length_cons, List.length_nil, List.length_map, List.length_append, len_appS]; omega)) only [evA, evC, Nat.reduceAdd, Nat.reduceSub, Int.reduceLT, Int.reduceLE, Int.reduceNeg, Int.reduceToNat, Int.reducePow, Int.reduceAdd, Int.reduceMul, Int.reduceEq, Int.reduceSub, reduceIte, reduceCtorEq, *])
      cases q : isN (g x) with
      | true =>
        rw [q] at e
        exact .inl ⟨rfl, _, set_st (.f (g x)) m1 (no_st e z_nil), _, _, rfl⟩
      | false =>
        rw [q] at e
        exact .inr ⟨rfl, set_st (.f (g x)) m1 (ite_yes e (ret_go rfl))⟩)
  have em : (l.map D.f).map (fun d => match d with | .f x => g x | _ => .non) = l.map g := by
    rw [List.map_map]; rfl
  rw [em] at hf
  have key : exSs (callF T n) (callM T n) T.sub [.for_ (.one 3) (.seq (.v 0)) [.set 4 (.calli i_fault_of_statement [(.v 3), (.v 1), (.v 2)]), .ite (.cmp .nis (.v 4) (.k .non)) [.ret (.v 4)] []], .ret (.k .non)] [some (.f (.tup l)), some (.loc t), some (.loc i), none, none] s = .rt (.f (firstF (l.map g))) s := by
    rcases hf with ⟨q, env', hf, v, w, rfl⟩ | ⟨q, hf⟩
    · refine run_st _ _ hf (ret_go ?_)
      rw [(firstF_flt hgs).isn q]
      rfl
    · exact ret_st hf
  show (exSs (callF T n) (callM T n) T.sub [.for_ (.one 3) (.seq (.v 0)) [.set 4 (.calli i_fault_of_statement [(.v 3), (.v 1), (.v 2)]), .ite (.cmp .nis (.v 4) (.k .non)) [.ret (.v 4)] []], .ret (.k .non)] [some (.f (.tup l)), some (.loc t), some (.loc i), none, none] s).res = _
  rw [key]; rfl
theorem o_flblk {n : Nat} {W : List Str} {DD : List (Str × Int)} (h : 2 ≤ n) (g : F → F) (l : List F) (hl : l.length ≤ 100000) (hp : ∀ x ∈ l, Flt (g x) ∧ Lf (n - 1) i__law_fault_of_statement W DD x (g x)) : Lf n i__law_fault_of_block W DD (.tup l) (firstF (l.map g)) := by
  intro s
  obtain ⟨n, rfl⟩ : ∃ m, n = m + 1 := ⟨n - 1, by omega⟩
  simp only [Nat.add_sub_cancel] at hp
  rw [call_eq (F := F__law_fault_of_block) rfl rfl]
  have hgs : ∀ x ∈ l.map g, Flt x := fun x hx => by
    obtain ⟨y, hy, rfl⟩ := List.mem_map.mp hx
    exact (hp y hy).1
  have h1 := fun s => o_first (n := n) (by omega) (l.map g) hgs s
  have lc := lc_map (call := callF T n) (mk := callM T n) (env := [some (.f (.tup l)), some (.f (.lst (W.map F.str))), some (.f (.lst (DD.map prF))), none]) (s := s) (it := .seq (.v 0)) (p := .one 3) (c := none) (e := .call i__law_fault_of_statement [(.v 3), (.v 1), (.v 2)]) (l := l) (h := fun x => .f x) (g := fun x => some (g x)) rfl
    (fun x hx => ⟨_, rfl, turn_none (by
      have h2 := (hp x hx).2
      have h2 := fun s => h2 s
      clear h1 hp hgs hx
      generalize W.map F.str = L at *
      generalize DD.map prF = L2 at *
      (simp (disch := first | omega | assumption | rfl | (simp only [List.length_cons, List.length_nil, List.length_map, List.length_append, len_appS]; omega)) only [evA, evC, Nat.reduceAdd, Nat.reduceSub, Int.reduceLT, Int.reduceLE, Int.reduceNeg, Int.reduceToNat, Int.reducePow, Int.reduceAdd, Int.reduceMul, Int.reduceEq, Int.reduceSub, reduceIte, reduceCtorEq, *]))⟩) (by omega)
  rw [fm_some] at lc
  clear hp hgs
  generalize W.map F.str = L at *
  generalize DD.map prF = L2 at *
  generalize l.map g = rs at *
  have key : exSs (callF T n) (callM T n) T.sub F__law_fault_of_block.body (startE F__law_fault_of_block.nsl [.f (.tup l), .f (.lst L), .f (.lst L2)]) s = .rt (.f (firstF rs)) s := by
    refine ret_go ?_
    show evE (callF T n) (callM T n) (.call i__law_first [(.lc false (.seq (.v 0)) (.one 3) none (.call i__law_fault_of_statement [(.v 3), (.v 1), (.v 2)]))]) [some (.f (.tup l)), some (.f (.lst L)), some (.f (.lst L2)), none] s = _
    generalize E.lc _ _ _ _ _ = e0 at lc ⊢
    (simp (disch := first | omega | assumption | rfl | (simp only [List.length_cons, List.length_nil, List.length_map, List.length_append, len_appS]; omega)) only [evA, evC, Nat.reduceAdd, Nat.reduceSub, Int.reduceLT, Int.reduceLE, Int.reduceNeg, Int.reduceToNat, Int.reducePow, Int.reduceAdd, Int.reduceMul, Int.reduceEq, Int.reduceSub, reduceIte, reduceCtorEq, *])
  rw [key]; rfl
/-- an if, a while: the program's -/
theorem o_fsplit {n t i : Nat} {tl : List (Str × Int)} {il : List Str} (h : 2 ≤ n) (g : F → F) (w e re : F) (bs : List F) (he : Flt re ∧ Pf (n - 1) i_fault_of_expression t i tl il e re) (hp : ∀ x ∈ bs, Flt (g x) ∧ Pf (n - 1) i_fault_of_block t i tl il x (g x)) : Pf n i_fault_of_split t i tl il (.tup (w :: e :: bs)) (firstF (re :: bs.map g)) := by
  intro s hs
  obtain ⟨n, rfl⟩ : ∃ m, n = m + 1 := ⟨n - 1, by omega⟩
  simp only [Nat.add_sub_cancel] at hp he
  rw [call_eq (F := F_fault_of_split) rfl rfl]
  obtain ⟨hr0, he⟩ := he
  have h0 := he s hs
  have hgs : ∀ x ∈ bs.map g, Flt x := fun x hx => by
    obtain ⟨y, hy, rfl⟩ := List.mem_map.mp hx
    exact (hp y hy).1
  have hcur : ∀ j, Flt (firstF (re :: (bs.map g).take j)) := fun j => firstF_flt fun x hx => by
    rcases List.mem_cons.mp hx with rfl | q
    · exact hr0
    · exact hgs x (List.mem_of_mem_take q)
  have hcut : cutL (w :: e :: bs) (some 2) none = bs := cut_drop2 (w :: e :: bs) 2
  obtain ⟨env', s', hf, ⟨v5, rfl⟩, hs'⟩ := for_run (call := callF T n) (mk := callM T n) (sub := T.sub) (env := [some (.f (.tup (w :: e :: bs))), some (.loc t), some (.loc i), some (.f re), none]) (s := s) (p := .one 4) (it := .seq (.sl false (.v 0) (some (.k (.int 2))) none)) (b := [.ite (.cmp .is_ (.v 3) (.k .non)) [.set 3 (.calli i_fault_of_block [(.v 4), (.v 1), (.v 2)])] []]) (items := bs.map D.f)
    (by clear hcur hgs h0 hp he hr0 hs; (simp (disch := first | omega | assumption | rfl | (simp only [List.length_cons, List.length_nil, List.length_map, List.length_append, len_appS]; omega)) only [evA, evC, Nat.reduceAdd, Nat.reduceSub, Int.reduceLT, Int.reduceLE, Int.reduceNeg, Int.reduceToNat, Int.reducePow, Int.reduceAdd, Int.reduceMul, Int.reduceEq, Int.reduceSub, reduceIte, reduceCtorEq]); rw [hcut])
    (fun j env s' => (∃ v, env = [some (.f (.tup (w :: e :: bs))), some (.loc t), some (.loc i), some (.f (firstF (re :: (bs.map g).take j))), v]) ∧ s' = s)
    ⟨⟨none, by rw [List.take_zero, firstF_one hr0]⟩, rfl⟩ (fun j d env s2 hd ⟨⟨v, hev⟩, hs2⟩ => by
      subst hev; subst hs2
      rw [List.getElem?_map] at hd
      obtain ⟨x, hx, rfl⟩ : ∃ x, bs[j]? = some x ∧ d = .f x := by
        cases e : bs[j]? with
        | none => rw [e] at hd; cases hd
        | some x => rw [e] at hd; cases hd; exact ⟨x, rfl, rfl⟩
      obtain ⟨hj, hxe⟩ := List.getElem?_eq_some_iff.mp hx
      have hxl : x ∈ bs := by rw [← hxe]; exact List.getElem_mem hj
      obtain ⟨fx, px⟩ := hp x hxl
      have et : (bs.map g).take (j + 1) = (bs.map g).take j ++ [g x] := by
        rw [List.take_succ, List.getElem?_map, hx]; rfl
      have hnew : firstF (re :: (bs.map g).take (j + 1)) = if isN (firstF (re :: (bs.map g).take j)) = true then g x else firstF (re :: (bs.map g).take j) := by
        rw [et, ← List.cons_append]
        exact firstF_snoc (fun y hy => by
          rcases List.mem_cons.mp hy with rfl | q
          · exact hr0
          · exact hgs y (List.mem_of_mem_take q)) fx
      rw [hnew]
      have hc := hcur j
      generalize firstF (re :: (bs.map g).take j) = cur at *
      have ee := ev_isn (call := callF T n) (mk := callM T n) (env := [some (.f (.tup (w :: e :: bs))), some (.loc t), some (.loc i), some (.f cur), some (.f x)]) (s := s2) (k := 3) rfl hc
      have hcall := px s2 hs
      cases q : isN cur with
      | true =>
        rw [q] at ee
        refine ⟨_, [some (.f (.tup (w :: e :: bs))), some (.loc t), some (.loc i), some (.f (g x)), some (.f x)], s2, rfl, .inl ?_, ⟨_, by rw [if_pos rfl]⟩, rfl⟩
        refine go_st [some (.f (.tup (w :: e :: bs))), some (.loc t), some (.loc i), some (.f (g x)), some (.f x)] s2 ee ?_ z_nil
        refine set_st (.f (g x)) ?_ z_nil
        clear ee hnew hc hp h0 hs hr0 hgs hcur et fx px hx hd hj hxe hxl he hcut
        (simp (disch := first | omega | assumption | rfl | (simp only [List.length_cons, List.length_nil, List.length_map, List.length_append, len_appS]; omega)) only [evA, evC, Nat.reduceAdd, Nat.reduceSub, Int.reduceLT, Int.reduceLE, Int.reduceNeg, Int.reduceToNat, Int.reducePow, Int.reduceAdd, Int.reduceMul, Int.reduceEq, Int.reduceSub, reduceIte, reduceCtorEq, *])
      | false =>
        rw [q] at ee
        exact ⟨_, [some (.f (.tup (w :: e :: bs))), some (.loc t), some (.loc i), some (.f cur), some (.f x)], s2, rfl, .inl (no_st ee z_nil), ⟨some (.f x), by rw [if_neg (by decide)]⟩, rfl⟩)
  subst hs'
  rw [List.length_map, List.take_of_length_le (by rw [List.length_map]; exact Nat.le_refl _)] at hf
  have key : exSs (callF T n) (callM T n) T.sub F_fault_of_split.body (startE F_fault_of_split.nsl [.f (.tup (w :: e :: bs)), .loc t, .loc i]) s' = .rt (.f (firstF (re :: bs.map g))) s' := by
    refine set_st (.f re) (by clear hf hcur hgs hr0 hp hs he hcut; (simp (disch := first | omega | assumption | rfl | (simp only [List.length_cons, List.length_nil, List.length_map, List.length_append, len_appS]; omega)) only [evA, evC, Nat.reduceAdd, Nat.reduceSub, Int.reduceLT, Int.reduceLE, Int.reduceNeg, Int.reduceToNat, Int.reducePow, Int.reduceAdd, Int.reduceMul, Int.reduceEq, Int.reduceSub, reduceIte, reduceCtorEq, *])) (run_st _ _ hf (ret_go rfl))
  rw [key]; rfl


end K11

namespace K11
open PySem JM L2
/-! ### statements: both sides -/
def w4 : List Str := ["let", "hand", "new", "await"]
section stm
variable {n t i : Nat} {tl : List (Str × Int)} {il W : List Str} {DD : List (Str × Int)}
theorem p_stm3 (h : 2 ≤ n) (w z : Str) (x r2 : F) (hw : w ∈ w4) (h2 : Pf (n - 1) i_fault_of_second t i tl il (.tup [.str w, .str z, x]) r2) : Pf n i_fault_of_statement t i tl il (.tup [.str w, .str z, x]) (if isN (fW (Kp tl il z) z) = true then r2 else fW (Kp tl il z) z) := by
  intro s hs
  obtain ⟨n, rfl⟩ : ∃ m, n = m + 1 := ⟨n - 1, by omega⟩
  simp only [Nat.add_sub_cancel] at h2
  rw [call_eq (F := F_fault_of_statement) rfl rfl]
  have h1 := o_fword (n := n) (by omega) hs z
  have h2 := h2 s hs
  have hr := fW_flt (Kp tl il z) z
  generalize fW (Kp tl il z) z = r1 at *
  clear hs h
  have e := ev_isn (call := callF T n) (mk := callM T n) (env := [some (.f (.tup [.str w, .str z, x])), some (.loc t), some (.loc i), some (.f r1)]) (s := s) (k := 3) rfl hr
  have key : exSs (callF T n) (callM T n) T.sub F_fault_of_statement.body (startE F_fault_of_statement.nsl [.f (.tup [.str w, .str z, x]), .loc t, .loc i]) s = .rt (.f (if isN r1 = true then r2 else r1)) s := by
    have hw : w = Str.ofString "let" ∨ w = Str.ofString "hand" ∨ w = Str.ofString "new" ∨ w = Str.ofString "await" := by
      simpa [w4] using hw
    refine no_st ?_ (no_st ?_ (no_st ?_ (set_st (.f r1) ?_ ?_)))
    · clear e h1 h2 hr; rcases hw with rfl | rfl | rfl | rfl <;> rfl
    · clear e h1 h2 hr; rcases hw with rfl | rfl | rfl | rfl <;> rfl
    · clear e h1 h2 hr; rcases hw with rfl | rfl | rfl | rfl <;> rfl
    · clear e h2 hr hw; (simp (disch := first | omega | assumption | rfl | (simp only [List.length_cons, List.length_nil, List.length_map, List.length_append, len_appS]; omega)) only [evA, evC, Nat.reduceAdd, Nat.reduceSub, Int.reduceLT, Int.reduceLE, Int.reduceNeg, Int.reduceToNat, Int.reducePow, Int.reduceAdd, Int.reduceMul, Int.reduceEq, Int.reduceSub, reduceIte, reduceCtorEq, *])
    · cases q : isN r1 with
      | true =>
        rw [q] at e
        rw [if_pos rfl]
        refine ite_yes ?_ (ret_go ?_)
        · have d : ∀ s, cNe (.f (.str w)) (.f (.str (Str.ofString "get"))) s = .ok (.f (.bl true)) s := fun s => by rcases hw with rfl | rfl | rfl | rfl <;> rfl
          clear h1 h2 hr hw q
          generalize E.cmp CO.is_ (.v 3) (.k .non) = e0 at *
          (simp (disch := first | omega | assumption | rfl | (simp only [List.length_cons, List.length_nil, List.length_map, List.length_append, len_appS]; omega)) only [evA, evC, Nat.reduceAdd, Nat.reduceSub, Int.reduceLT, Int.reduceLE, Int.reduceNeg, Int.reduceToNat, Int.reducePow, Int.reduceAdd, Int.reduceMul, Int.reduceEq, Int.reduceSub, reduceIte, reduceCtorEq, *])
        · clear h1 hr hw q e; (simp (disch := first | omega | assumption | rfl | (simp only [List.length_cons, List.length_nil, List.length_map, List.length_append, len_appS]; omega)) only [evA, evC, Nat.reduceAdd, Nat.reduceSub, Int.reduceLT, Int.reduceLE, Int.reduceNeg, Int.reduceToNat, Int.reducePow, Int.reduceAdd, Int.reduceMul, Int.reduceEq, Int.reduceSub, reduceIte, reduceCtorEq, *])
      | false =>
        rw [q] at e
        rw [if_neg (by decide)]
        refine no_st ?_ (ret_go rfl)
        clear h1 h2 hr hw q
        generalize E.cmp CO.is_ (.v 3) (.k .non) = e0 at *
        (simp (disch := first | omega | assumption | rfl | (simp only [List.length_cons, List.length_nil, List.length_map, List.length_append, len_appS]; omega)) only [evA, evC, Nat.reduceAdd, Nat.reduceSub, Int.reduceLT, Int.reduceLE, Int.reduceNeg, Int.reduceToNat, Int.reducePow, Int.reduceAdd, Int.reduceMul, Int.reduceEq, Int.reduceSub, reduceIte, reduceCtorEq, *])
  rw [key]; rfl
theorem p_snd_e (h : 1 ≤ n) (w z : Str) (x r2 : F) (hw : w = Str.ofString "let" ∨ w = Str.ofString "hand") (h2 : Pf (n - 1) i_fault_of_expression t i tl il x r2) : Pf n i_fault_of_second t i tl il (.tup [.str w, .str z, x]) r2 := by
  intro s hs
  obtain ⟨n, rfl⟩ : ∃ m, n = m + 1 := ⟨n - 1, by omega⟩
  simp only [Nat.add_sub_cancel] at h2
  rw [call_eq (F := F_fault_of_second) rfl rfl]
  have h2 := h2 s hs
  clear hs h
  have key : exSs (callF T n) (callM T n) T.sub F_fault_of_second.body (startE F_fault_of_second.nsl [.f (.tup [.str w, .str z, x]), .loc t, .loc i]) s = .rt (.f r2) s := by
    refine no_st ?_ (ite_yes ?_ (ret_go ?_))
    · clear h2; rcases hw with rfl | rfl <;> rfl
    · clear h2; rcases hw with rfl | rfl <;> rfl
    · clear hw; (simp (disch := first | omega | assumption | rfl | (simp only [List.length_cons, List.length_nil, List.length_map, List.length_append, len_appS]; omega)) only [evA, evC, Nat.reduceAdd, Nat.reduceSub, Int.reduceLT, Int.reduceLE, Int.reduceNeg, Int.reduceToNat, Int.reducePow, Int.reduceAdd, Int.reduceMul, Int.reduceEq, Int.reduceSub, reduceIte, reduceCtorEq, *])
  rw [key]; rfl
theorem p_snd_w (h : 2 ≤ n) (z y : Str) : Pf n i_fault_of_second t i tl il (.tup [.str "await", .str z, .str y]) (fW (Kp tl il y) y) := by
  intro s hs
  obtain ⟨n, rfl⟩ : ∃ m, n = m + 1 := ⟨n - 1, by omega⟩
  rw [call_eq (F := F_fault_of_second) rfl rfl]
  have h2 := o_fword (n := n) (by omega) hs y
  clear hs h
  generalize fW (Kp tl il y) y = r2 at *
  have key : exSs (callF T n) (callM T n) T.sub F_fault_of_second.body (startE F_fault_of_second.nsl [.f (.tup [.str "await", .str z, .str y]), .loc t, .loc i]) s = .rt (.f r2) s := ite_yes rfl (ret_go (by (simp (disch := first | omega | assumption | rfl | (simp only [List.length_cons, List.length_nil, List.length_map, List.length_append, len_appS]; omega)) only [evA, evC, Nat.reduceAdd, Nat.reduceSub, Int.reduceLT, Int.reduceLE, Int.reduceNeg, Int.reduceToNat, Int.reducePow, Int.reduceAdd, Int.reduceMul, Int.reduceEq, Int.reduceSub, reduceIte, reduceCtorEq, *])))
  rw [key]; rfl
theorem p_snd_n (h : 2 ≤ n) (z y : Str) : Pf n i_fault_of_second t i tl il (.tup [.str "new", .str z, .str y]) (cF (Kp tl il y) y [] 0) := by
  intro s hs
  obtain ⟨n, rfl⟩ : ∃ m, n = m + 1 := ⟨n - 1, by omega⟩
  rw [call_eq (F := F_fault_of_second) rfl rfl]
  have h2 := o_fdname (n := n) (by omega) hs y
  have hr := fN_flt (Kp tl il y) y
  have e := ev_isn (call := callF T n) (mk := callM T n) (env := [some (.f (.tup [.str "new", .str z, .str y])), some (.loc t), some (.loc i), some (.f (fN (Kp tl il y) y))]) (s := s) (k := 3) rfl hr
  have key : exSs (callF T n) (callM T n) T.sub F_fault_of_second.body (startE F_fault_of_second.nsl [.f (.tup [.str "new", .str z, .str y]), .loc t, .loc i]) s = .rt (.f (cF (Kp tl il y) y [] 0)) s := by
    refine no_st rfl (no_st rfl (set_st (.f (fN (Kp tl il y) y)) (by clear e hr hs; (simp (disch := first | omega | assumption | rfl | (simp only [List.length_cons, List.length_nil, List.length_map, List.length_append, len_appS]; omega)) only [evA, evC, Nat.reduceAdd, Nat.reduceSub, Int.reduceLT, Int.reduceLE, Int.reduceNeg, Int.reduceToNat, Int.reducePow, Int.reduceAdd, Int.reduceMul, Int.reduceEq, Int.reduceSub, reduceIte, reduceCtorEq, *])) ?_))
    clear h2
    unfold cF
    cases q : isN (fN (Kp tl il y) y) with
    | false =>
      rw [q] at e
      rw [if_neg (by decide)]
      refine no_st ?_ (ret_go rfl)
      clear hr hs q
      generalize fN (Kp tl il y) y = r at *
      generalize E.cmp CO.is_ (.v 3) (.k .non) = e0 at *
      (simp (disch := first | omega | assumption | rfl | (simp only [List.length_cons, List.length_nil, List.length_map, List.length_append, len_appS]; omega)) only [evA, evC, Nat.reduceAdd, Nat.reduceSub, Int.reduceLT, Int.reduceLE, Int.reduceNeg, Int.reduceToNat, Int.reducePow, Int.reduceAdd, Int.reduceMul, Int.reduceEq, Int.reduceSub, reduceIte, reduceCtorEq, *])
    | true =>
      rw [q] at e
      rw [if_pos rfl, if_pos (show isN (firstF []) = true from rfl)]
      obtain ⟨c, hk, hc1⟩ := fN_non q
      have hn := hr.isn q
      rw [hn] at e ⊢
      rw [hk]
      have hg : getK (topD tl) (.inr y : Key) = some (.f (.int c)) := by
        rw [getK_top]
        unfold Kp at hk
        split at hk
        · cases hk; exact absurd rfl hc1
        · rw [hk]; rfl
      have h3 := e_ixD hs.top y hg
      show _ = O.rt (.f (if c = ((0 : Nat) : Int) then F.non else cntF y)) s
      clear hg hk hr q hs hn hc1
      generalize E.cmp CO.is_ (.v 3) (.k .non) = e0 at *
      have e00 : ((0 : Nat) : Int) = 0 := rfl
      rw [e00]
      by_cases hcl : c = 0
      · subst hcl
        refine no_st ?_ (ret_go rfl)
        (simp (disch := first | omega | assumption | rfl | (simp only [List.length_cons, List.length_nil, List.length_map, List.length_append, len_appS]; omega)) only [evA, evC, Nat.reduceAdd, Nat.reduceSub, Int.reduceLT, Int.reduceLE, Int.reduceNeg, Int.reduceToNat, Int.reducePow, Int.reduceAdd, Int.reduceMul, Int.reduceEq, Int.reduceSub, reduceIte, reduceCtorEq, *])
      · rw [if_neg hcl]
        have d1 : decide (c = 0) = false := decide_eq_false hcl
        refine ite_yes ?_ (ret_go ?_)
        · clear hcl
          (simp (disch := first | omega | assumption | rfl | (simp only [List.length_cons, List.length_nil, List.length_map, List.length_append, len_appS]; omega)) only [evA, evC, Nat.reduceAdd, Nat.reduceSub, Int.reduceLT, Int.reduceLE, Int.reduceNeg, Int.reduceToNat, Int.reducePow, Int.reduceAdd, Int.reduceMul, Int.reduceEq, Int.reduceSub, reduceIte, reduceCtorEq, *])
        · clear d1 h3 e hcl
          (simp (disch := first | omega | assumption | rfl | (simp only [List.length_cons, List.length_nil, List.length_map, List.length_append, len_appS]; omega)) only [evA, evC, Nat.reduceAdd, Nat.reduceSub, Int.reduceLT, Int.reduceLE, Int.reduceNeg, Int.reduceToNat, Int.reducePow, Int.reduceAdd, Int.reduceMul, Int.reduceEq, Int.reduceSub, reduceIte, reduceCtorEq])
          rfl
  rw [key]; rfl
theorem l_stm3 (h : 2 ≤ n) (hM : Mn tl il W DD) (w z : Str) (x r2 : F) (hw : ((w = Str.ofString "let" ∨ w = Str.ofString "hand") ∧ Lf (n - 1) i__law_fault_of_expression W DD x r2) ∨ (w = Str.ofString "await" ∧ ∃ y, x = .str y ∧ r2 = fW (Kp tl il y) y)) : Lf n i__law_fault_of_statement W DD (.tup [.str w, .str z, x]) (if isN (fW (Kp tl il z) z) = true then r2 else fW (Kp tl il z) z) := by
  intro s
  obtain ⟨n, rfl⟩ : ∃ m, n = m + 1 := ⟨n - 1, by omega⟩
  simp only [Nat.add_sub_cancel] at hw
  rw [call_eq (F := F__law_fault_of_statement) rfl rfl]
  have h1 := fun s => o_flword (n := n) (by omega) W DD hM.len hM.pos z s
  rw [← hM.same] at h1
  have hr := fW_flt (Kp tl il z) z
  have hw : ((w = Str.ofString "let" ∨ w = Str.ofString "hand") ∧ ∀ s, callF T n i__law_fault_of_expression [.f x, .f (.lst (W.map F.str)), .f (.lst (DD.map prF))] s = .ok (.f r2) s) ∨ (w = Str.ofString "await" ∧ ∃ y, x = .str y ∧ ∀ s, callF T n i__law_fault_of_word [.f (.str y), .f (.lst (W.map F.str)), .f (.lst (DD.map prF))] s = .ok (.f r2) s) := by
    rcases hw with ⟨a, b⟩ | ⟨a, y, b, c⟩
    · exact .inl ⟨a, fun s => b s⟩
    · refine .inr ⟨a, y, b, fun s => ?_⟩
      rw [c, hM.same]
      exact o_flword (by omega) W DD hM.len hM.pos y s
  generalize W.map F.str = L at *
  generalize DD.map prF = L2 at *
  generalize fW (Kp tl il z) z = r1 at *
  have e := ev_nis (call := callF T n) (mk := callM T n) (env := [some (.f (.tup [.str w, .str z, x])), some (.f (.lst L)), some (.f (.lst L2)), some (.f (.str w)), none, none, some (.f r1)]) (s := s) (k := 6) rfl hr
  have key : exSs (callF T n) (callM T n) T.sub F__law_fault_of_statement.body (startE F__law_fault_of_statement.nsl [.f (.tup [.str w, .str z, x]), .f (.lst L), .f (.lst L2)]) s = .rt (.f (if isN r1 = true then r2 else r1)) s := by
    refine set_st (.f (.str w)) (by clear e h1 hr hw; (simp (disch := first | omega | assumption | rfl | (simp only [List.length_cons, List.length_nil, List.length_map, List.length_append, len_appS]; omega)) only [evA, evC, Nat.reduceAdd, Nat.reduceSub, Int.reduceLT, Int.reduceLE, Int.reduceNeg, Int.reduceToNat, Int.reducePow, Int.reduceAdd, Int.reduceMul, Int.reduceEq, Int.reduceSub, reduceIte, reduceCtorEq])) ?_
    have hw3 : w = Str.ofString "let" ∨ w = Str.ofString "hand" ∨ w = Str.ofString "await" := by
      rcases hw with ⟨a | a, _⟩ | ⟨a, _⟩
      · exact .inl a
      · exact .inr (.inl a)
      · exact .inr (.inr a)
    refine no_st ?_ (no_st ?_ (no_st ?_ (no_st ?_ (set_st (.f r1) ?_ ?_))))
    · clear e h1 hr hw; rcases hw3 with rfl | rfl | rfl <;> rfl
    · clear e h1 hr hw; rcases hw3 with rfl | rfl | rfl <;> rfl
    · clear e h1 hr hw; rcases hw3 with rfl | rfl | rfl <;> rfl
    · clear e h1 hr hw; rcases hw3 with rfl | rfl | rfl <;> rfl
    · clear e hr hw hw3; (simp (disch := first | omega | assumption | rfl | (simp only [List.length_cons, List.length_nil, List.length_map, List.length_append, len_appS]; omega)) only [evA, evC, Nat.reduceAdd, Nat.reduceSub, Int.reduceLT, Int.reduceLE, Int.reduceNeg, Int.reduceToNat, Int.reducePow, Int.reduceAdd, Int.reduceMul, Int.reduceEq, Int.reduceSub, reduceIte, reduceCtorEq, *])
    · cases q : isN r1 with
      | true =>
        rw [q] at e
        rw [if_pos rfl]
        refine no_st ?_ ?_
        · have d : ∀ s, cEq (.f (.str w)) (.f (.str (Str.ofString "get"))) s = .ok (.f (.bl false)) s := fun s => by rcases hw3 with rfl | rfl | rfl <;> rfl
          clear h1 hr hw q hw3
          generalize E.cmp CO.nis (.v 6) (.k .non) = e0 at *
          (simp (disch := first | omega | assumption | rfl | (simp only [List.length_cons, List.length_nil, List.length_map, List.length_append, len_appS]; omega)) only [evA, evC, Nat.reduceAdd, Nat.reduceSub, Int.reduceLT, Int.reduceLE, Int.reduceNeg, Int.reduceToNat, Int.reducePow, Int.reduceAdd, Int.reduceMul, Int.reduceEq, Int.reduceSub, reduceIte, reduceCtorEq, *])
        · clear h1 hr q e hw3
          rcases hw with ⟨hw, h2⟩ | ⟨rfl, y, rfl, h2⟩
          · refine no_st ?_ (ret_go ?_)
            · clear h2; rcases hw with rfl | rfl <;> rfl
            · clear hw; (simp (disch := first | omega | assumption | rfl | (simp only [List.length_cons, List.length_nil, List.length_map, List.length_append, len_appS]; omega)) only [evA, evC, Nat.reduceAdd, Nat.reduceSub, Int.reduceLT, Int.reduceLE, Int.reduceNeg, Int.reduceToNat, Int.reducePow, Int.reduceAdd, Int.reduceMul, Int.reduceEq, Int.reduceSub, reduceIte, reduceCtorEq, *])
          · exact ite_yes rfl (ret_go (by (simp (disch := first | omega | assumption | rfl | (simp only [List.length_cons, List.length_nil, List.length_map, List.length_append, len_appS]; omega)) only [evA, evC, Nat.reduceAdd, Nat.reduceSub, Int.reduceLT, Int.reduceLE, Int.reduceNeg, Int.reduceToNat, Int.reducePow, Int.reduceAdd, Int.reduceMul, Int.reduceEq, Int.reduceSub, reduceIte, reduceCtorEq, *])))
      | false =>
        rw [q] at e
        rw [if_neg (by decide)]
        refine ite_yes ?_ (ret_go rfl)
        clear h1 hr hw q hw3
        generalize E.cmp CO.nis (.v 6) (.k .non) = e0 at *
        (simp (disch := first | omega | assumption | rfl | (simp only [List.length_cons, List.length_nil, List.length_map, List.length_append, len_appS]; omega)) only [evA, evC, Nat.reduceAdd, Nat.reduceSub, Int.reduceLT, Int.reduceLE, Int.reduceNeg, Int.reduceToNat, Int.reducePow, Int.reduceAdd, Int.reduceMul, Int.reduceEq, Int.reduceSub, reduceIte, reduceCtorEq, *])
  rw [key]; rfl
theorem l_new (h : 4 ≤ n) (hM : Mn tl il W DD) (z y : Str) : Lf n i__law_fault_of_statement W DD (.tup [.str "new", .str z, .str y]) (if isN (fW (Kp tl il z) z) = true then cF (Kp tl il y) y [] 0 else fW (Kp tl il z) z) := by
  intro s
  obtain ⟨n, rfl⟩ : ∃ m, n = m + 2 := ⟨n - 2, by omega⟩
  have h1 := fun s => o_flword (n := n) (by omega) W DD hM.len hM.pos z s
  rw [← hM.same] at h1
  have h2 := fun s => o_flcall (n := n) (W := W) (by omega) hM.len hM.pos (fun x => x) [] (by simp) (fun x hx => by cases hx) y s
  rw [← hM.same] at h2
  replace h2 : ∀ s, callF T n i__law_fault_of_call [.f (.str y), .f (.tup []), .f (.lst (W.map F.str)), .f (.lst (DD.map prF))] s = .ok (.f (cF (Kp tl il y) y [] 0)) s := h2
  have hr := fW_flt (Kp tl il z) z
  have hr2 : Flt (cF (Kp tl il y) y [] 0) := cF_flt fun x hx => by cases hx
  have e : firstF [fW (Kp tl il z) z, cF (Kp tl il y) y [] 0] = if isN (fW (Kp tl il z) z) = true then cF (Kp tl il y) y [] 0 else fW (Kp tl il z) z := by
    cases q : isN (fW (Kp tl il z) z) with
    | true => rw [firstF_yes q, firstF_one hr2, if_pos rfl]
    | false => rw [firstF_no q, if_neg (by decide)]
  rw [← e]
  clear e
  generalize fW (Kp tl il z) z = r1 at *
  generalize cF (Kp tl il y) y [] 0 = r2 at *
  have h3 := fun s => o_first (n := n) (by omega) [r1, r2] (fun x hx => by
    rcases List.mem_cons.mp hx with rfl | hx
    · exact hr
    · rw [List.mem_singleton.mp hx]; exact hr2) s
  generalize W.map F.str = L at *
  generalize DD.map prF = L2 at *
  generalize firstF [r1, r2] = r at *
  clear hr hr2 hM h
  have hn : ∀ s, callF T (n + 1) i__law_fault_of_new [.f (.tup [.str "new", .str z, .str y]), .f (.lst L), .f (.lst L2)] s = .ok (.f r) s := fun s => by
    rw [call_eq (F := F__law_fault_of_new) rfl rfl]
    have key : exSs (callF T n) (callM T n) T.sub F__law_fault_of_new.body (startE F__law_fault_of_new.nsl [.f (.tup [.str "new", .str z, .str y]), .f (.lst L), .f (.lst L2)]) s = .rt (.f r) s := by
      refine set_st (.f r2) ?_ (ret_go ?_)
      · clear h1 h3; (simp (disch := first | omega | assumption | rfl | (simp only [List.length_cons, List.length_nil, List.length_map, List.length_append, len_appS]; omega)) only [evA, evC, Nat.reduceAdd, Nat.reduceSub, Int.reduceLT, Int.reduceLE, Int.reduceNeg, Int.reduceToNat, Int.reducePow, Int.reduceAdd, Int.reduceMul, Int.reduceEq, Int.reduceSub, reduceIte, reduceCtorEq, *])
      · clear h2; (simp (disch := first | omega | assumption | rfl | (simp only [List.length_cons, List.length_nil, List.length_map, List.length_append, len_appS]; omega)) only [evA, evC, Nat.reduceAdd, Nat.reduceSub, Int.reduceLT, Int.reduceLE, Int.reduceNeg, Int.reduceToNat, Int.reducePow, Int.reduceAdd, Int.reduceMul, Int.reduceEq, Int.reduceSub, reduceIte, reduceCtorEq, *])
    rw [key]; rfl
  rw [call_eq (F := F__law_fault_of_statement) rfl rfl]
  have key : exSs (callF T (n + 1)) (callM T (n + 1)) T.sub F__law_fault_of_statement.body (startE F__law_fault_of_statement.nsl [.f (.tup [.str "new", .str z, .str y]), .f (.lst L), .f (.lst L2)]) s = .rt (.f r) s := by
    refine set_st (.f (.str "new")) (by clear h1 h2 h3 hn; (simp (disch := first | omega | assumption | rfl | (simp only [List.length_cons, List.length_nil, List.length_map, List.length_append, len_appS]; omega)) only [evA, evC, Nat.reduceAdd, Nat.reduceSub, Int.reduceLT, Int.reduceLE, Int.reduceNeg, Int.reduceToNat, Int.reducePow, Int.reduceAdd, Int.reduceMul, Int.reduceEq, Int.reduceSub, reduceIte, reduceCtorEq])) (ite_yes rfl (ret_go ?_))
    clear h1 h2 h3
    (simp (disch := first | omega | assumption | rfl | (simp only [List.length_cons, List.length_nil, List.length_map, List.length_append, len_appS]; omega)) only [evA, evC, Nat.reduceAdd, Nat.reduceSub, Int.reduceLT, Int.reduceLE, Int.reduceNeg, Int.reduceToNat, Int.reducePow, Int.reduceAdd, Int.reduceMul, Int.reduceEq, Int.reduceSub, reduceIte, reduceCtorEq, *])
  rw [key]; rfl
theorem o_new (h : 4 ≤ n) (hM : Mn tl il W DD) (z y : Str) : Bo n i_fault_of_statement i__law_fault_of_statement t i tl il W DD (.tup [.str "new", .str z, .str y]) (if isN (fW (Kp tl il z) z) = true then cF (Kp tl il y) y [] 0 else fW (Kp tl il z) z) := by
  refine ⟨?_, p_stm3 (by omega) _ z _ _ (by decide) (p_snd_n (by omega) z y), l_new h hM z y⟩
  split
  · exact cF_flt fun x hx => by cases hx
  · exact fW_flt _ _
theorem o_await (h : 4 ≤ n) (hM : Mn tl il W DD) (z y : Str) : Bo n i_fault_of_statement i__law_fault_of_statement t i tl il W DD (.tup [.str "await", .str z, .str y]) (if isN (fW (Kp tl il z) z) = true then fW (Kp tl il y) y else fW (Kp tl il z) z) := by
  refine ⟨?_, p_stm3 (by omega) _ z _ _ (by decide) (p_snd_w (by omega) z y), l_stm3 (by omega) hM _ z _ _ (.inr ⟨rfl, y, rfl, rfl⟩)⟩
  split
  · exact fW_flt _ _
  · exact fW_flt _ _
theorem o_let (h : 4 ≤ n) (hM : Mn tl il W DD) (w z : Str) (hw : w = Str.ofString "let" ∨ w = Str.ofString "hand") {x r : F} (hr : Flt r) (hp : Pf (n - 2) i_fault_of_expression t i tl il x r) (hl : Lf (n - 1) i__law_fault_of_expression W DD x r) : Bo n i_fault_of_statement i__law_fault_of_statement t i tl il W DD (.tup [.str w, .str z, x]) (if isN (fW (Kp tl il z) z) = true then r else fW (Kp tl il z) z) := by
  refine ⟨?_, p_stm3 (by omega) _ z _ r (by rcases hw with rfl | rfl <;> decide) (p_snd_e (by omega) w z x r hw hp), l_stm3 (by omega) hM _ z _ r (.inl ⟨hw, hl⟩)⟩
  split
  · exact hr
  · exact fW_flt _ _
theorem o_get (h : 2 ≤ n) (hM : Mn tl il W DD) (z : Str) : Bo n i_fault_of_statement i__law_fault_of_statement t i tl il W DD (.tup [.str "get", .str z]) (fW (Kp tl il z) z) := by
  obtain ⟨n, rfl⟩ : ∃ m, n = m + 1 := ⟨n - 1, by omega⟩
  have hr := fW_flt (Kp tl il z) z
  refine ⟨hr, fun s hs => ?_, fun s => ?_⟩
  · rw [call_eq (F := F_fault_of_statement) rfl rfl]
    have h1 := o_fword (n := n) (by omega) hs z
    generalize fW (Kp tl il z) z = r1 at *
    clear hs h
    have e := ev_isn (call := callF T n) (mk := callM T n) (env := [some (.f (.tup [.str "get", .str z])), some (.loc t), some (.loc i), some (.f r1)]) (s := s) (k := 3) rfl hr
    have key : exSs (callF T n) (callM T n) T.sub F_fault_of_statement.body (startE F_fault_of_statement.nsl [.f (.tup [.str "get", .str z]), .loc t, .loc i]) s = .rt (.f r1) s := by
      refine no_st rfl (no_st rfl (no_st rfl (set_st (.f r1) (by clear e hr; (simp (disch := first | omega | assumption | rfl | (simp only [List.length_cons, List.length_nil, List.length_map, List.length_append, len_appS]; omega)) only [evA, evC, Nat.reduceAdd, Nat.reduceSub, Int.reduceLT, Int.reduceLE, Int.reduceNeg, Int.reduceToNat, Int.reducePow, Int.reduceAdd, Int.reduceMul, Int.reduceEq, Int.reduceSub, reduceIte, reduceCtorEq, *])) (no_st ?_ (ret_go rfl)))))
      have d : ∀ s, cNe (.f (.str (Str.ofString "get"))) (.f (.str (Str.ofString "get"))) s = .ok (.f (.bl false)) s := fun s => rfl
      clear h1 hr
      generalize E.cmp CO.is_ (.v 3) (.k .non) = e0 at *
      generalize isN r1 = b at *
      cases b with
      | true => (simp (disch := first | omega | assumption | rfl | (simp only [List.length_cons, List.length_nil, List.length_map, List.length_append, len_appS]; omega)) only [evA, evC, Nat.reduceAdd, Nat.reduceSub, Int.reduceLT, Int.reduceLE, Int.reduceNeg, Int.reduceToNat, Int.reducePow, Int.reduceAdd, Int.reduceMul, Int.reduceEq, Int.reduceSub, reduceIte, reduceCtorEq, *])
      | false => (simp (disch := first | omega | assumption | rfl | (simp only [List.length_cons, List.length_nil, List.length_map, List.length_append, len_appS]; omega)) only [evA, evC, Nat.reduceAdd, Nat.reduceSub, Int.reduceLT, Int.reduceLE, Int.reduceNeg, Int.reduceToNat, Int.reducePow, Int.reduceAdd, Int.reduceMul, Int.reduceEq, Int.reduceSub, reduceIte, reduceCtorEq, *])
    rw [key]; rfl
  · rw [call_eq (F := F__law_fault_of_statement) rfl rfl]
    have h1 := fun s => o_flword (n := n) (by omega) W DD hM.len hM.pos z s
    rw [← hM.same] at h1
    generalize W.map F.str = L at *
    generalize DD.map prF = L2 at *
    generalize fW (Kp tl il z) z = r1 at *
    have e := ev_nis (call := callF T n) (mk := callM T n) (env := [some (.f (.tup [.str "get", .str z])), some (.f (.lst L)), some (.f (.lst L2)), some (.f (.str "get")), none, none, some (.f r1)]) (s := s) (k := 6) rfl hr
    have key : exSs (callF T n) (callM T n) T.sub F__law_fault_of_statement.body (startE F__law_fault_of_statement.nsl [.f (.tup [.str "get", .str z]), .f (.lst L), .f (.lst L2)]) s = .rt (.f r1) s := by
      refine set_st (.f (.str "get")) (by clear e h1 hr; (simp (disch := first | omega | assumption | rfl | (simp only [List.length_cons, List.length_nil, List.length_map, List.length_append, len_appS]; omega)) only [evA, evC, Nat.reduceAdd, Nat.reduceSub, Int.reduceLT, Int.reduceLE, Int.reduceNeg, Int.reduceToNat, Int.reducePow, Int.reduceAdd, Int.reduceMul, Int.reduceEq, Int.reduceSub, reduceIte, reduceCtorEq])) (no_st rfl (no_st rfl (no_st rfl (no_st rfl (set_st (.f r1) (by clear e hr; (simp (disch := first | omega | assumption | rfl | (simp only [List.length_cons, List.length_nil, List.length_map, List.length_append, len_appS]; omega)) only [evA, evC, Nat.reduceAdd, Nat.reduceSub, Int.reduceLT, Int.reduceLE, Int.reduceNeg, Int.reduceToNat, Int.reducePow, Int.reduceAdd, Int.reduceMul, Int.reduceEq, Int.reduceSub, reduceIte, reduceCtorEq, *])) (ite_yes ?_ (ret_go rfl)))))))
      have d : ∀ s, cEq (.f (.str (Str.ofString "get"))) (.f (.str (Str.ofString "get"))) s = .ok (.f (.bl true)) s := fun s => rfl
      clear h1 hr
      generalize E.cmp CO.nis (.v 6) (.k .non) = e0 at *
      generalize isN r1 = b at *
      cases b with
      | true => (simp (disch := first | omega | assumption | rfl | (simp only [List.length_cons, List.length_nil, List.length_map, List.length_append, len_appS]; omega)) only [evA, evC, Nat.reduceAdd, Nat.reduceSub, Int.reduceLT, Int.reduceLE, Int.reduceNeg, Int.reduceToNat, Int.reducePow, Int.reduceAdd, Int.reduceMul, Int.reduceEq, Int.reduceSub, reduceIte, reduceCtorEq, *])
      | false => (simp (disch := first | omega | assumption | rfl | (simp only [List.length_cons, List.length_nil, List.length_map, List.length_append, len_appS]; omega)) only [evA, evC, Nat.reduceAdd, Nat.reduceSub, Int.reduceLT, Int.reduceLE, Int.reduceNeg, Int.reduceToNat, Int.reducePow, Int.reduceAdd, Int.reduceMul, Int.reduceEq, Int.reduceSub, reduceIte, reduceCtorEq, *])
    rw [key]; rfl
theorem o_give (h : 1 ≤ n) (w : Str) (hw : w = Str.ofString "give" ∨ w = Str.ofString "tell") {x r : F} (hp : Bo (n - 1) i_fault_of_expression i__law_fault_of_expression t i tl il W DD x r) : Bo n i_fault_of_statement i__law_fault_of_statement t i tl il W DD (.tup [.str w, x]) r := by
  obtain ⟨n, rfl⟩ : ∃ m, n = m + 1 := ⟨n - 1, by omega⟩
  simp only [Nat.add_sub_cancel] at hp
  obtain ⟨hr, hp, hl⟩ := hp
  refine ⟨hr, fun s hs => ?_, fun s => ?_⟩
  · rw [call_eq (F := F_fault_of_statement) rfl rfl]
    have h1 := hp s hs
    clear hs h hp hl
    have key : exSs (callF T n) (callM T n) T.sub F_fault_of_statement.body (startE F_fault_of_statement.nsl [.f (.tup [.str w, x]), .loc t, .loc i]) s = .rt (.f r) s := by
      refine no_st ?_ (no_st ?_ (ite_yes ?_ (ret_go ?_)))
      · clear h1; rcases hw with rfl | rfl <;> rfl
      · clear h1; rcases hw with rfl | rfl <;> rfl
      · clear h1; rcases hw with rfl | rfl <;> rfl
      · clear hw; (simp (disch := first | omega | assumption | rfl | (simp only [List.length_cons, List.length_nil, List.length_map, List.length_append, len_appS]; omega)) only [evA, evC, Nat.reduceAdd, Nat.reduceSub, Int.reduceLT, Int.reduceLE, Int.reduceNeg, Int.reduceToNat, Int.reducePow, Int.reduceAdd, Int.reduceMul, Int.reduceEq, Int.reduceSub, reduceIte, reduceCtorEq, *])
    rw [key]; rfl
  · rw [call_eq (F := F__law_fault_of_statement) rfl rfl]
    have h1 := fun s => hl s
    clear h hp hl
    generalize W.map F.str = L at *
    generalize DD.map prF = L2 at *
    have key : exSs (callF T n) (callM T n) T.sub F__law_fault_of_statement.body (startE F__law_fault_of_statement.nsl [.f (.tup [.str w, x]), .f (.lst L), .f (.lst L2)]) s = .rt (.f r) s := by
      refine set_st (.f (.str w)) (by clear h1; (simp (disch := first | omega | assumption | rfl | (simp only [List.length_cons, List.length_nil, List.length_map, List.length_append, len_appS]; omega)) only [evA, evC, Nat.reduceAdd, Nat.reduceSub, Int.reduceLT, Int.reduceLE, Int.reduceNeg, Int.reduceToNat, Int.reducePow, Int.reduceAdd, Int.reduceMul, Int.reduceEq, Int.reduceSub, reduceIte, reduceCtorEq])) (no_st ?_ (no_st ?_ (ite_yes ?_ (ret_go ?_))))
      · clear h1; rcases hw with rfl | rfl <;> rfl
      · clear h1; rcases hw with rfl | rfl <;> rfl
      · clear h1; rcases hw with rfl | rfl <;> rfl
      · clear hw; (simp (disch := first | omega | assumption | rfl | (simp only [List.length_cons, List.length_nil, List.length_map, List.length_append, len_appS]; omega)) only [evA, evC, Nat.reduceAdd, Nat.reduceSub, Int.reduceLT, Int.reduceLE, Int.reduceNeg, Int.reduceToNat, Int.reducePow, Int.reduceAdd, Int.reduceMul, Int.reduceEq, Int.reduceSub, reduceIte, reduceCtorEq, *])
    rw [key]; rfl
theorem o_do (h : 3 ≤ n) (hM : Mn tl il W DD) (g : F → F) (z : Str) (l : List F) (hl : l.length ≤ 100) (hp : ∀ x ∈ l, Bo (n - 2) i_fault_of_expression i__law_fault_of_expression t i tl il W DD x (g x)) : Bo n i_fault_of_statement i__law_fault_of_statement t i tl il W DD (.tup [.str "do", .str z, .tup l]) (cF (Kp tl il z) z (l.map g) l.length) := by
  obtain ⟨n, rfl⟩ : ∃ m, n = m + 1 := ⟨n - 1, by omega⟩
  refine ⟨cF_flt fun x hx => ?_, fun s hs => ?_, fun s => ?_⟩
  · obtain ⟨y, hy, rfl⟩ := List.mem_map.mp hx
    exact (hp y hy).1
  · rw [call_eq (F := F_fault_of_statement) rfl rfl]
    have h1 := o_fcall (n := n) (by omega) g l hl (fun x hx => ⟨(hp x hx).1, (hp x hx).2.1⟩) z hs
    clear hs hp h
    generalize cF (Kp tl il z) z (l.map g) l.length = r at *
    have key : exSs (callF T n) (callM T n) T.sub F_fault_of_statement.body (startE F_fault_of_statement.nsl [.f (.tup [.str "do", .str z, .tup l]), .loc t, .loc i]) s = .rt (.f r) s := no_st rfl (ite_yes rfl (ret_go (by (simp (disch := first | omega | assumption | rfl | (simp only [List.length_cons, List.length_nil, List.length_map, List.length_append, len_appS]; omega)) only [evA, evC, Nat.reduceAdd, Nat.reduceSub, Int.reduceLT, Int.reduceLE, Int.reduceNeg, Int.reduceToNat, Int.reducePow, Int.reduceAdd, Int.reduceMul, Int.reduceEq, Int.reduceSub, reduceIte, reduceCtorEq, *]))))
    rw [key]; rfl
  · rw [call_eq (F := F__law_fault_of_statement) rfl rfl]
    have h1 := fun s => o_flcall (n := n) (by omega) hM.len hM.pos g l hl (fun x hx => ⟨(hp x hx).1, (hp x hx).2.2⟩) z s
    rw [← hM.same] at h1
    clear hp h
    generalize cF (Kp tl il z) z (l.map g) l.length = r at *
    generalize W.map F.str = L at *
    generalize DD.map prF = L2 at *
    have key : exSs (callF T n) (callM T n) T.sub F__law_fault_of_statement.body (startE F__law_fault_of_statement.nsl [.f (.tup [.str "do", .str z, .tup l]), .f (.lst L), .f (.lst L2)]) s = .rt (.f r) s := set_st (.f (.str "do")) (by clear h1; (simp (disch := first | omega | assumption | rfl | (simp only [List.length_cons, List.length_nil, List.length_map, List.length_append, len_appS]; omega)) only [evA, evC, Nat.reduceAdd, Nat.reduceSub, Int.reduceLT, Int.reduceLE, Int.reduceNeg, Int.reduceToNat, Int.reducePow, Int.reduceAdd, Int.reduceMul, Int.reduceEq, Int.reduceSub, reduceIte, reduceCtorEq])) (no_st rfl (ite_yes rfl (ret_go (by (simp (disch := first | omega | assumption | rfl | (simp only [List.length_cons, List.length_nil, List.length_map, List.length_append, len_appS]; omega)) only [evA, evC, Nat.reduceAdd, Nat.reduceSub, Int.reduceLT, Int.reduceLE, Int.reduceNeg, Int.reduceToNat, Int.reducePow, Int.reduceAdd, Int.reduceMul, Int.reduceEq, Int.reduceSub, reduceIte, reduceCtorEq, *])))))
    rw [key]; rfl
/-- an if, a while -/
theorem o_splt (h : 4 ≤ n) (w : Str) (hw : w = Str.ofString "if" ∨ w = Str.ofString "while") (g : F → F) (e : F) (bs : List F) (hl : bs.length ≤ 2) {re : F} (he : Flt re ∧ Pf (n - 2) i_fault_of_expression t i tl il e re ∧ Lf (n - 1) i__law_fault_of_expression W DD e re) (hp : ∀ x ∈ bs, Flt (g x) ∧ Pf (n - 2) i_fault_of_block t i tl il x (g x) ∧ Lf (n - 1) i__law_fault_of_block W DD x (g x)) : Bo n i_fault_of_statement i__law_fault_of_statement t i tl il W DD (.tup (.str w :: e :: bs)) (firstF (re :: bs.map g)) := by
  obtain ⟨n, rfl⟩ : ∃ m, n = m + 1 := ⟨n - 1, by omega⟩
  obtain ⟨hr, hep, hel⟩ := he
  have hgs : ∀ x ∈ re :: bs.map g, Flt x := fun x hx => by
    rcases List.mem_cons.mp hx with rfl | hx
    · exact hr
    · obtain ⟨y, hy, rfl⟩ := List.mem_map.mp hx
      exact (hp y hy).1
  refine ⟨firstF_flt hgs, fun s hs => ?_, fun s => ?_⟩
  · rw [call_eq (F := F_fault_of_statement) rfl rfl]
    have h1 := o_fsplit (n := n) (by omega) g (.str w) e re bs ⟨hr, hep⟩ (fun x hx => ⟨(hp x hx).1, (hp x hx).2.1⟩) s hs
    clear hs hp h hgs hep hel hr
    generalize firstF (re :: bs.map g) = r at *
    have key : exSs (callF T n) (callM T n) T.sub F_fault_of_statement.body (startE F_fault_of_statement.nsl [.f (.tup (.str w :: e :: bs)), .loc t, .loc i]) s = .rt (.f r) s := by
      refine ite_yes ?_ (ret_go ?_)
      · have ei : ∀ s, cIn (.f (.str w)) (.f (.tup [.str (Str.ofString "if"), .str (Str.ofString "while")])) s = .ok (.f (.bl true)) s := fun s => by rcases hw with rfl | rfl <;> rfl
        clear h1 hw
        generalize hb : e :: bs = eb
        (simp (disch := first | omega | assumption | rfl | (simp only [List.length_cons, List.length_nil, List.length_map, List.length_append, len_appS]; omega)) only [evA, evC, Nat.reduceAdd, Nat.reduceSub, Int.reduceLT, Int.reduceLE, Int.reduceNeg, Int.reduceToNat, Int.reducePow, Int.reduceAdd, Int.reduceMul, Int.reduceEq, Int.reduceSub, reduceIte, reduceCtorEq, *])
      · clear hw
        (simp (disch := first | omega | assumption | rfl | (simp only [List.length_cons, List.length_nil, List.length_map, List.length_append, len_appS]; omega)) only [evA, evC, Nat.reduceAdd, Nat.reduceSub, Int.reduceLT, Int.reduceLE, Int.reduceNeg, Int.reduceToNat, Int.reducePow, Int.reduceAdd, Int.reduceMul, Int.reduceEq, Int.reduceSub, reduceIte, reduceCtorEq, *])
    rw [key]; rfl
  · rw [call_eq (F := F__law_fault_of_statement) rfl rfl]
    have h1 := fun s => hel s
    have h2 := fun s => o_first (n := n) (by omega) (re :: bs.map g) hgs s
    have lc := lc_map (call := callF T n) (mk := callM T n) (env := [some (.f (.tup (.str w :: e :: bs))), some (.f (.lst (W.map F.str))), some (.f (.lst (DD.map prF))), some (.f (.str w)), none, none, none]) (s := s) (it := .seq (.sl false (.v 0) (some (.k (.int 2))) none)) (p := .one 5) (c := none) (e := .call i__law_fault_of_block [(.v 5), (.v 1), (.v 2)]) (l := bs) (h := fun x => .f x) (g := fun x => some (g x))
      (by
        have ec : cutL (F.str w :: e :: bs) (some 2) none = bs := cut_drop2 (F.str w :: e :: bs) 2
        clear h1 h2 hgs hp hep hel hr
        generalize W.map F.str = L at *
        generalize DD.map prF = L2 at *
        (simp (disch := first | omega | assumption | rfl | (simp only [List.length_cons, List.length_nil, List.length_map, List.length_append, len_appS]; omega)) only [evA, evC, Nat.reduceAdd, Nat.reduceSub, Int.reduceLT, Int.reduceLE, Int.reduceNeg, Int.reduceToNat, Int.reducePow, Int.reduceAdd, Int.reduceMul, Int.reduceEq, Int.reduceSub, reduceIte, reduceCtorEq])
        rw [ec])
      (fun x hx => ⟨_, rfl, turn_none (by
        have h3 := (hp x hx).2.2
        have h3 := fun s => h3 s
        simp only [Nat.add_sub_cancel] at h3
        clear h1 h2 hgs hp hep hel hr hx
        generalize W.map F.str = L at *
        generalize DD.map prF = L2 at *
        (simp (disch := first | omega | assumption | rfl | (simp only [List.length_cons, List.length_nil, List.length_map, List.length_append, len_appS]; omega)) only [evA, evC, Nat.reduceAdd, Nat.reduceSub, Int.reduceLT, Int.reduceLE, Int.reduceNeg, Int.reduceToNat, Int.reducePow, Int.reduceAdd, Int.reduceMul, Int.reduceEq, Int.reduceSub, reduceIte, reduceCtorEq, *]))⟩) (by omega)
    rw [fm_some] at lc
    simp only [Nat.add_sub_cancel] at h1
    have hbl : (bs.map g).length ≤ 2 := by rw [List.length_map]; exact hl
    clear hp h hgs hep hel hr
    generalize firstF (re :: bs.map g) = r at *
    generalize bs.map g = rs at *
    generalize W.map F.str = L at *
    generalize DD.map prF = L2 at *
    have key : exSs (callF T n) (callM T n) T.sub F__law_fault_of_statement.body (startE F__law_fault_of_statement.nsl [.f (.tup (.str w :: e :: bs)), .f (.lst L), .f (.lst L2)]) s = .rt (.f r) s := by
      refine set_st (.f (.str w)) (by clear h1 h2 lc hw; generalize e :: bs = eb; (simp (disch := first | omega | assumption | rfl | (simp only [List.length_cons, List.length_nil, List.length_map, List.length_append, len_appS]; omega)) only [evA, evC, Nat.reduceAdd, Nat.reduceSub, Int.reduceLT, Int.reduceLE, Int.reduceNeg, Int.reduceToNat, Int.reducePow, Int.reduceAdd, Int.reduceMul, Int.reduceEq, Int.reduceSub, reduceIte, reduceCtorEq])) (no_st ?_ (no_st ?_ (no_st ?_ (ite_yes ?_ ?_))))
      · clear h1 h2 lc; rcases hw with rfl | rfl <;> rfl
      · clear h1 h2 lc; rcases hw with rfl | rfl <;> rfl
      · clear h1 h2 lc; rcases hw with rfl | rfl <;> rfl
      · clear h1 h2 lc; rcases hw with rfl | rfl <;> rfl
      · refine set_st (.f (.lst rs)) lc (ret_go ?_)
        clear lc hw hl
        (simp (disch := first | omega | assumption | rfl | (simp only [List.length_cons, List.length_nil, List.length_map, List.length_append, len_appS]; omega)) only [evA, evC, Nat.reduceAdd, Nat.reduceSub, Int.reduceLT, Int.reduceLE, Int.reduceNeg, Int.reduceToNat, Int.reducePow, Int.reduceAdd, Int.reduceMul, Int.reduceEq, Int.reduceSub, reduceIte, reduceCtorEq, *])
    rw [key]; rfl
end stm
/-- the same found at all levels from one on -/
def Al2 (b fp fl t i : Nat) (tl : List (Str × Int)) (il : List Str) (W : List Str) (DD : List (Str × Int)) (x r : F) : Prop := Flt r ∧ ∀ n, b ≤ n → Pf n fp t i tl il x r ∧ Lf n fl W DD x r
theorem al2_of {b fp fl t i : Nat} {tl : List (Str × Int)} {il : List Str} {W : List Str} {DD : List (Str × Int)} {x r : F} (h : ∀ n, b ≤ n → Bo n fp fl t i tl il W DD x r) : Al2 b fp fl t i tl il W DD x r := ⟨(h b (Nat.le_refl _)).1, fun n hn => (h n hn).2⟩
theorem al2_blk {b t i : Nat} {tl : List (Str × Int)} {il : List Str} {W : List Str} {DD : List (Str × Int)} (hb : 1 ≤ b) (g : F → F) (l : List F) (hl : l.length ≤ 100000) (hp : ∀ x ∈ l, Al2 b i_fault_of_statement i__law_fault_of_statement t i tl il W DD x (g x)) : Al2 (b + 1) i_fault_of_block i__law_fault_of_block t i tl il W DD (.tup l) (firstF (l.map g)) :=
  al2_of fun n hn => ⟨firstF_flt fun x hx => by
    obtain ⟨y, hy, rfl⟩ := List.mem_map.mp hx
    exact (hp y hy).1, o_fblk (by omega) g l fun x hx => ⟨(hp x hx).1, ((hp x hx).2 _ (by omega)).1⟩, o_flblk (by omega) g l hl fun x hx => ⟨(hp x hx).1, ((hp x hx).2 _ (by omega)).2⟩⟩
theorem al2_splt {b t i : Nat} {tl : List (Str × Int)} {il : List Str} {W : List Str} {DD : List (Str × Int)} (hb : 7 ≤ b) (w : Str) (hw : w = Str.ofString "if" ∨ w = Str.ofString "while") (e re : F) (he : Al2 7 i_fault_of_expression i__law_fault_of_expression t i tl il W DD e re) (bs : List F) (hl : bs.length ≤ 2) (hp : ∀ x ∈ bs, ∃ r, Al2 (b + 1) i_fault_of_block i__law_fault_of_block t i tl il W DD x r) : ∃ r, Al2 (b + 3) i_fault_of_statement i__law_fault_of_statement t i tl il W DD (.tup (.str w :: e :: bs)) r := by
  obtain ⟨g, hg⟩ := pickF (l := bs) (Q := fun x r => Al2 (b + 1) i_fault_of_block i__law_fault_of_block t i tl il W DD x r) hp
  exact ⟨_, al2_of fun n hn => o_splt (by omega) w hw g e bs hl ⟨he.1, (he.2 _ (by omega)).1, (he.2 _ (by omega)).2⟩ fun x hx => ⟨(hg x hx).1, ((hg x hx).2 _ (by omega)).1, ((hg x hx).2 _ (by omega)).2⟩⟩
theorem o_fs {nm dd pl : List F} {t i : Nat} {tl : List (Str × Int)} {il : List Str} {W : List Str} {DD : List (Str × Int)} (hM : Mn tl il W DD) (hN : Nms nm) (hdd : Dds dd) (hP : Pln pl) {d : Nat} {y : F} (hx : Sm nm dd pl d y) : ∃ r, Al2 (3 * d + 9) i_fault_of_statement i__law_fault_of_statement t i tl il W DD y r := by
  have ex : ∀ {e : F}, Xp nm dd 2 e → ∃ r, Al2 7 i_fault_of_expression i__law_fault_of_expression t i tl il W DD e r := fun he => o_fe hM hdd he
  have blk : ∀ {d : Nat} (l : List F), l.length ≤ 4 → (∀ x ∈ l, ∃ r, Al2 (3 * d + 9) i_fault_of_statement i__law_fault_of_statement t i tl il W DD x r) → ∃ r, Al2 (3 * d + 9 + 1) i_fault_of_block i__law_fault_of_block t i tl il W DD (.tup l) r := fun {d} l hl hp => by
    obtain ⟨g, hg⟩ := pickF (l := l) (Q := fun x r => Al2 (3 * d + 9) i_fault_of_statement i__law_fault_of_statement t i tl il W DD x r) hp
    exact ⟨_, al2_blk (by omega) g l (by omega) hg⟩
  have lt : ∀ (d : Nat) (w z : Str) (hw : w = Str.ofString "let" ∨ w = Str.ofString "hand") {e : F}, Xp nm dd 2 e → ∃ r, Al2 (3 * d + 9) i_fault_of_statement i__law_fault_of_statement t i tl il W DD (.tup [.str w, .str z, e]) r := fun d w z hw {e} he => by
    obtain ⟨r, hr⟩ := ex he
    exact ⟨_, al2_of fun n hn => o_let (by omega) hM w z hw hr.1 (hr.2 _ (by omega)).1 (hr.2 _ (by omega)).2⟩
  induction hx with
  | lt d z e hz he => exact lt d _ z (.inl rfl) he
  | hand d z e hz he => exact lt d _ z (.inr rfl) he
  | tell d e he =>
    obtain ⟨r, hr⟩ := ex he
    exact ⟨_, al2_of fun n hn => o_give (by omega) _ (.inr rfl) ⟨hr.1, hr.2 _ (by omega)⟩⟩
  | give d e he =>
    obtain ⟨r, hr⟩ := ex he
    exact ⟨_, al2_of fun n hn => o_give (by omega) _ (.inl rfl) ⟨hr.1, hr.2 _ (by omega)⟩⟩
  | get d z hz => exact ⟨_, al2_of fun n hn => o_get (by omega) hM z⟩
  | new d z w hz hw =>
    obtain ⟨y, rfl, _⟩ := hP.2 w hw
    exact ⟨_, al2_of fun n hn => o_new (by omega) hM z y⟩
  | await d z y hz hy => exact ⟨_, al2_of fun n hn => o_await (by omega) hM z y⟩
  | do_ d z cnt l hz hl hxl =>
    obtain ⟨z2, c2, e2, _, _, h4⟩ := hdd.2 _ hz
    cases e2
    obtain ⟨g, hg⟩ := pickF (l := l) (Q := fun x r => Al2 5 i_fault_of_expression i__law_fault_of_expression t i tl il W DD x r) fun x hx => o_fe hM hdd (hxl x hx)
    exact ⟨_, al2_of fun n hn => o_do (by omega) hM g z l (by omega) fun x hx => ⟨(hg x hx).1, (hg x hx).2 _ (by omega)⟩⟩
  | whl d e l he hl hxl ih =>
    obtain ⟨r, hr⟩ := ex he
    exact al2_splt (b := 3 * d + 9) (by omega) _ (.inr rfl) e r hr [.tup l] (by simp) fun x hx => by
      rw [List.mem_singleton.mp hx]
      exact blk l (by omega) ih
  | cnt d z k l hz hk hl hxl ih =>
    obtain ⟨r, hr⟩ := ex (.op 1 _ _ _ (show Str.ofString "<" ∈ signs by decide) (.nam 0 z hz) (.num 1 k (by omega)))
    exact al2_splt (b := 3 * d + 9) (by omega) _ (.inr rfl) _ r hr [.tup (l ++ [.tup [.str "let", .str z, .tup [.str "+", .tup [.str "name", .str z], .tup [.str "number", .int 1]]]])] (by simp) fun x hx => by
      rw [List.mem_singleton.mp hx]
      refine blk _ (by rw [List.length_append]; simp; omega) fun y hy => ?_
      rcases List.mem_append.mp hy with hy | hy
      · exact ih y hy
      · rw [List.mem_singleton.mp hy]
        exact lt d _ z (.inl rfl) (.op 1 _ _ _ (show Str.ofString "+" ∈ signs by decide) (.nam 0 z hz) (.num 1 1 (by omega)))
  | ite d e l m he hl hm hxl hxm ih ihm =>
    obtain ⟨r, hr⟩ := ex he
    exact al2_splt (b := 3 * d + 9) (by omega) _ (.inl rfl) e r hr [.tup l, .tup m] (by simp) fun x hx => by
      rcases List.mem_cons.mp hx with rfl | hx
      · exact blk l (by omega) ih
      · rw [List.mem_singleton.mp hx]
        exact blk m (by omega) ihm


end K11

namespace K11
open PySem JM L2
/-! ### heads and blocks of a unit -/
section store
variable {call mk : Nat → List D → Sto → JM.R D} {sub : Nat → Nat → Bool} {env : Env'} {s : Sto}
theorem z_iset (o i e : E) : exS call mk sub (.iset o i e) env s = (evE call mk e env s).go env fun v s => (evE call mk o env s).go env fun d s => (evE call mk i env s).go env fun k s => (match setItemD d k v s with | some s => .nx env s | none => .fail) := rfl
theorem b_put {a i : Nat} {k e : E} {z : Str} {v : D} {l : List (Key × D)} (ha : env[a]? = some (some (.loc i))) (hk : evE call mk k env s = .ok (.f (.str z)) s) (hv : evE call mk e env s = .ok v s) (h : s[i]? = some (.dK l)) (hl : l.length < 16777216) : exS call mk sub (.iset (.v a) k e) env s = .nx env (s.set i (.dK (setK l (.inr z : Key) v))) := by
  rw [z_iset, hv]
  simp only [R.go_ok]
  rw [x_v, ha]
  simp only [R.go_ok, hk]
  have e1 : setItemD (.loc i) (.f (.str z)) v s = some (s.set i (.dK (setK l (.inr z : Key) v))) := by
    unfold setItemD
    simp only [h, keyD, Option.bind_some]
    rw [if_pos (by rw [sizeLine_eq]; omega)]
  rw [e1]
theorem forR_first2 {f : D → Env' → Sto → O} {g : D → F} {P : Env' → Sto → Prop} : ∀ {l : List D} {env : Env'} {s : Sto}, P env s →
    (∀ x ∈ l, ∀ env s, P env s → (isN (g x) = true ∧ ∃ env' s', f x env s = .nx env' s' ∧ P env' s') ∨ (isN (g x) = false ∧ ∃ s', f x env s = .rt (.f (g x)) s')) →
    (isN (firstF (l.map g)) = true ∧ ∃ env' s', forR f l env s = .nx env' s' ∧ P env' s') ∨ (isN (firstF (l.map g)) = false ∧ ∃ s', forR f l env s = .rt (.f (firstF (l.map g))) s')
  | [], env, s, h, _ => .inl ⟨rfl, env, s, rfl, h⟩
  | x :: l, env, s, h, st => by
    rw [List.map_cons]
    rcases st x (List.mem_cons_self ..) env s h with ⟨q, env', s', e, h'⟩ | ⟨q, s', e⟩
    · rw [firstF_yes q]
      have e2 : forR f (x :: l) env s = forR f l env' s' := by
        conv => lhs; unfold forR
        rw [e]
      rw [e2]
      exact forR_first2 h' fun y hy => st y (List.mem_cons_of_mem _ hy)
    · rw [firstF_no q]
      exact .inr ⟨q, s', by unfold forR; rw [e]⟩
theorem for_first2 {p : Pat} {it : JM.It} {b : List S} {items : List D} (hi : evIt call mk it env s = .ok items s) (g : D → F) (P : Env' → Sto → Prop) (h0 : P env s)
    (st : ∀ x ∈ items, ∀ env s, P env s → ∃ env1, bindP p x s env = some env1 ∧ ((isN (g x) = true ∧ ∃ env' s', exSs call mk sub b env1 s = .nx env' s' ∧ P env' s') ∨ (isN (g x) = false ∧ ∃ s', exSs call mk sub b env1 s = .rt (.f (g x)) s'))) :
    (isN (firstF (items.map g)) = true ∧ ∃ env' s', exS call mk sub (.for_ p it b) env s = .nx env' s' ∧ P env' s') ∨ (isN (firstF (items.map g)) = false ∧ ∃ s', exS call mk sub (.for_ p it b) env s = .rt (.f (firstF (items.map g))) s') := by
  have e : exS call mk sub (.for_ p it b) env s = (evIt call mk it env s).go env fun items s => forR (fun x env s => match bindP p x s env with | some env' => exSs call mk sub b env' s | none => .fail) items env s := rfl
  rw [e, hi, R.go_ok]
  exact forR_first2 h0 fun x hx env s hp => by
    obtain ⟨env1, a, hh⟩ := st x hx env s hp
    simp only [a]
    exact hh
end store
theorem setK_inn (il : List Str) (z : Str) : setK (innD il) (.inr z : Key) (.f (.bl true)) = innD (if z ∈ il then il else il ++ [z]) := by
  have ha : ((innD il).any fun p => decide (p.1 = (.inr z : Key))) = decide (z ∈ il) := by
    unfold innD
    rw [List.any_map]
    by_cases h : z ∈ il
    · rw [decide_eq_true h, List.any_eq_true]
      exact ⟨z, h, by simp⟩
    · rw [decide_eq_false h, List.any_eq_false]
      intro x hx
      show ¬ decide ((Sum.inr x : Key) = Sum.inr z) = true
      rw [key_eq]
      intro q
      exact h (of_decide_eq_true q ▸ hx)
  unfold setK
  rw [ha]
  by_cases h : z ∈ il
  · rw [decide_eq_true h, if_pos rfl, if_pos h]
    unfold innD
    rw [List.map_map]
    refine List.map_congr_left fun x _ => ?_
    show (if (Sum.inr x : Key) = Sum.inr z then ((Sum.inr x : Key), D.f (.bl true)) else ((Sum.inr x : Key), D.f (.bl true))) = _
    split <;> rfl
  · rw [decide_eq_false h, if_neg (by decide), if_neg h]
    unfold innD
    rw [List.map_append]
    rfl
theorem lk_none {tl : List (Str × Int)} {z : Str} (h : z ∉ tl.map (·.1)) : lk tl z = none := by
  unfold lk
  rw [Option.map_eq_none_iff, List.find?_eq_none]
  intro p hp q
  exact h (List.mem_map.mpr ⟨p, hp, of_decide_eq_true q⟩)
theorem setK_top {tl : List (Str × Int)} {z : Str} (h : z ∉ tl.map (·.1)) (c : Int) : setK (topD tl) (.inr z : Key) (.f (.int c)) = topD (tl ++ [(z, c)]) := by
  have ha : ((topD tl).any fun p => decide (p.1 = (.inr z : Key))) = false := by
    unfold topD
    rw [List.any_map, List.any_eq_false]
    intro p hp
    show ¬ decide ((Sum.inr p.1 : Key) = Sum.inr z) = true
    rw [key_eq]
    intro q
    exact h (List.mem_map.mpr ⟨p, hp, of_decide_eq_true q⟩)
  unfold setK
  rw [ha, if_neg (by decide)]
  unfold topD
  rw [List.map_append]
  rfl
theorem lt_of_get {s : Sto} {i : Nat} {c : Cell} (h : s[i]? = some c) : i < s.length := (List.getElem?_eq_some_iff.mp h).1
theorem set_get {s : Sto} {i : Nat} {c : Cell} (h : i < s.length) : (s.set i c)[i]? = some c := List.getElem?_set_self h
theorem set_id {s : Sto} {i : Nat} {c : Cell} (h : s[i]? = some c) : s.set i c = s := by
  refine List.ext_getElem? fun j => ?_
  by_cases e : i = j
  · subst e; rw [set_get (lt_of_get h), h]
  · rw [List.getElem?_set_ne e]
theorem set_oth {s : Sto} {i j : Nat} {c : Cell} (h : i ≠ j) : (s.set i c)[j]? = s[j]? := List.getElem?_set_ne h
theorem new_get (s : Sto) (c : Cell) : (s ++ [c])[s.length]? = some c := by simp
theorem new_oth {s : Sto} {i : Nat} {c d : Cell} (h : s[i]? = some d) : (s ++ [c])[i]? = some d := by
  rw [List.getElem?_append_left (lt_of_get h)]; exact h
/-- a deed of a unit -/
structure Dd where
  nm : Str
  ps : List Str
  os : List Str
  bs : List F
def Dd.val (d : Dd) : F := .tup [.str d.nm, .tup (d.ps.map F.str), .tup (d.os.map F.str), .tup d.bs]
def untF (nm : Str) (tk : List F) (ws : List Str) (ds : List Dd) (bs : List F) : F := .tup [.str nm, .tup tk, .tup (ws.map F.str), .tup (ds.map Dd.val), .tup bs]
/-- words that are new -/
theorem o_fwords {n : Nat} (h : 1 ≤ n) {t : Nat} {tl : List (Str × Int)} {s : Sto} (hs : s[t]? = some (.dK (topD tl))) (htl : tl.length ≤ 100000) (nm : Str) (tk : List F) (ws : List Str) (ds : List Dd) (bs : List F) (hw : ws.length ≤ 100000) (hnd : ((tl.map (·.1)) ++ ws).Nodup) :
    callF T n i_fault_of_words [.f (untF nm tk ws ds bs), .loc t] s = .ok (.f .non) (s.set t (.dK (topD (tl ++ ws.map fun z => (z, -1))))) := by
  obtain ⟨n, rfl⟩ : ∃ m, n = m + 1 := ⟨n - 1, by omega⟩
  rw [call_eq (F := F_fault_of_words) rfl rfl]
  have ht := lt_of_get hs
  obtain ⟨env', s', hf, ⟨v, rfl⟩, hs'⟩ := for_run (call := callF T n) (mk := callM T n) (sub := T.sub) (env := [some (.f (untF nm tk ws ds bs)), some (.loc t), none]) (s := s) (p := .one 2) (it := .seq (.idx (.v 0) (.k (.int 2)))) (b := [.ite (.cmp .isin (.v 2) (.v 1)) [.ret (.tup [(.k (.str "twice")), (.v 2)])] [], .iset (.v 1) (.v 2) (.g "WORD" (.int (-1)))]) (items := (ws.map F.str).map D.f) rfl
    (fun j env s' => (∃ v, env = [some (.f (untF nm tk ws ds bs)), some (.loc t), v]) ∧ s' = s.set t (.dK (topD (tl ++ (ws.take j).map fun z => (z, -1)))))
    ⟨⟨none, rfl⟩, by
      rw [List.take_zero, List.map_nil, List.append_nil]
      exact (set_id hs).symm⟩ (fun j d env s2 hd hP => by
      obtain ⟨⟨v, rfl⟩, hs2⟩ := hP
      obtain ⟨z, hz, rfl⟩ : ∃ z, ws[j]? = some z ∧ d = .f (.str z) := by
        rw [List.getElem?_map, List.getElem?_map] at hd
        cases e : ws[j]? with
        | none => rw [e] at hd; cases hd
        | some x => rw [e] at hd; cases hd; exact ⟨x, rfl, rfl⟩
      have hj := (List.getElem?_eq_some_iff.mp hz).1
      have het : ws.take (j + 1) = ws.take j ++ [z] := by rw [List.take_succ, hz]; rfl
      have hg : s2[t]? = some (.dK (topD (tl ++ (ws.take j).map fun z => (z, -1)))) := by rw [hs2]; exact set_get ht
      have hnew : z ∉ (tl ++ (ws.take j).map fun z => (z, (-1 : Int))).map (·.1) := fun hm => by
        rw [List.map_append, List.map_map] at hm
        have e1 : ((fun p : Str × Int => p.1) ∘ fun z : Str => (z, (-1 : Int))) = id := rfl
        rw [e1, List.map_id] at hm
        rw [List.nodup_append] at hnd
        obtain ⟨a1, a2, a3⟩ := hnd
        rcases List.mem_append.mp hm with q | q
        · exact a3 z q z (List.mem_of_getElem? hz) rfl
        · obtain ⟨k, hk, ek⟩ := List.getElem_of_mem q
          rw [List.length_take] at hk
          rw [List.getElem_take] at ek
          have h3 := (List.getElem?_eq_some_iff.mp hz).2
          have := (List.getElem_inj (xs := ws) (h₀ := by omega) (h₁ := hj) a2).mp (ek.trans h3.symm)
          omega
      have hin := e_inD hg z
      rw [getK_top, lk_none hnew] at hin
      refine ⟨[some (.f (untF nm tk ws ds bs)), some (.loc t), some (.f (.str z))], [some (.f (untF nm tk ws ds bs)), some (.loc t), some (.f (.str z))], s.set t (.dK (topD (tl ++ (ws.take (j + 1)).map fun z => (z, -1)))), rfl, .inl ?_, ⟨_, rfl⟩, rfl⟩
      refine no_st ?_ (run_st _ _ (b_put (a := 1) (i := t) (z := z) (v := .f (.int (-1))) (l := topD (tl ++ (ws.take j).map fun z => (z, -1))) rfl rfl rfl hg ?_) ?_)
      · replace hin : cIn (.f (.str z)) (.loc t) s2 = .ok (.f (.bl false)) s2 := hin
        clear hg hs2 hnew het hnd hd hz hs
        generalize untF nm tk ws ds bs = U
        (simp (disch := first | omega | assumption | rfl | (simp only [List.length_cons, List.length_nil, List.length_map, List.length_append, len_appS]; omega)) only [evA, evC, Nat.reduceAdd, Nat.reduceSub, Int.reduceLT, Int.reduceLE, Int.reduceNeg, Int.reduceToNat, Int.reducePow, Int.reduceAdd, Int.reduceMul, Int.reduceEq, Int.reduceSub, reduceIte, reduceCtorEq, *])
      · have : (topD (tl ++ (ws.take j).map fun z => (z, (-1 : Int)))).length ≤ 200000 := by
          unfold topD
          rw [List.length_map, List.length_append, List.length_map, List.length_take]; omega
        omega
      · rw [setK_top hnew, hs2, List.set_set, het, List.map_append, ← List.append_assoc]
        exact z_nil)
  rw [List.length_map, List.length_map, List.take_length] at hs'
  subst hs'
  have key : exSs (callF T n) (callM T n) T.sub [.for_ (.one 2) (.seq (.idx (.v 0) (.k (.int 2)))) [.ite (.cmp .isin (.v 2) (.v 1)) [.ret (.tup [(.k (.str "twice")), (.v 2)])] [], .iset (.v 1) (.v 2) (.g "WORD" (.int (-1)))], .ret (.k .non)] [some (.f (untF nm tk ws ds bs)), some (.loc t), none] s = .rt (.f .non) (s.set t (.dK (topD (tl ++ ws.map fun z => (z, -1))))) := run_st _ _ hf (ret_go rfl)
  show (exSs (callF T n) (callM T n) T.sub [.for_ (.one 2) (.seq (.idx (.v 0) (.k (.int 2)))) [.ite (.cmp .isin (.v 2) (.v 1)) [.ret (.tup [(.k (.str "twice")), (.v 2)])] [], .iset (.v 1) (.v 2) (.g "WORD" (.int (-1)))], .ret (.k .non)] [some (.f (untF nm tk ws ds bs)), some (.loc t), none] s).res = _
  rw [key]; rfl
/-- a deed's names, laid in a dict -/
theorem o_inner {call mk : Nat → List D → Sto → JM.R D} {sub : Nat → Nat → Bool} (zs : List Str) (hz : zs.length ≤ 100000) (s : Sto) (U : F) (t : D) (d : Dd) (hd : d.ps ++ d.os = zs) (v4 v5 : Option D) :
    ∃ il v, (∀ z, z ∈ il ↔ z ∈ zs) ∧ exS call mk sub (.for_ (.one 4) (.seq (.bin (.add false) (.idx (.v 2) (.k (.int 1))) (.idx (.v 2) (.k (.int 2))))) [.iset (.v 3) (.v 4) (.k (.bl true))]) [some (.f U), some t, some (.f d.val), some (.loc s.length), v4, v5] (s ++ [.dK []]) = .nx [some (.f U), some t, some (.f d.val), some (.loc s.length), v, v5] (s ++ [.dK (innD il)]) := by
  obtain ⟨env', s', hf, il, v, hil, hle, rfl, rfl⟩ := for_run (call := call) (mk := mk) (sub := sub) (env := [some (.f U), some t, some (.f d.val), some (.loc s.length), v4, v5]) (s := s ++ [.dK []]) (p := .one 4) (it := .seq (.bin (.add false) (.idx (.v 2) (.k (.int 1))) (.idx (.v 2) (.k (.int 2))))) (b := [.iset (.v 3) (.v 4) (.k (.bl true))]) (items := (zs.map F.str).map D.f)
    (by
      have e : zs.map F.str = d.ps.map F.str ++ d.os.map F.str := by rw [← hd, List.map_append]
      have hl : (d.ps.map F.str).length + (d.os.map F.str).length ≤ 100000 := by
        rw [List.length_map, List.length_map, ← List.length_append, hd]; exact hz
      rw [e]
      unfold Dd.val
      generalize d.ps.map F.str = A at *
      generalize d.os.map F.str = B at *
      clear e hd
      generalize s ++ [.dK []] = s1
      generalize Cell.dK [] = c
      (simp (disch := first | omega | assumption | rfl | (simp only [List.length_cons, List.length_nil, List.length_map, List.length_append, len_appS]; omega)) only [evA, evC, Nat.reduceAdd, Nat.reduceSub, Int.reduceLT, Int.reduceLE, Int.reduceNeg, Int.reduceToNat, Int.reducePow, Int.reduceAdd, Int.reduceMul, Int.reduceEq, Int.reduceSub, reduceIte, reduceCtorEq]))
    (fun j env s' => ∃ il v, (∀ z, z ∈ il ↔ z ∈ zs.take j) ∧ il.length ≤ j ∧ env = [some (.f U), some t, some (.f d.val), some (.loc s.length), v, v5] ∧ s' = s ++ [.dK (innD il)])
    ⟨[], v4, by simp, by simp, rfl, rfl⟩ (fun j x env s2 hx ⟨il, v, hil, hle, hev, hs2⟩ => by
      subst hev; subst hs2
      obtain ⟨z, hzj, rfl⟩ : ∃ z, zs[j]? = some z ∧ x = .f (.str z) := by
        rw [List.getElem?_map, List.getElem?_map] at hx
        cases e : zs[j]? with
        | none => rw [e] at hx; cases hx
        | some y => rw [e] at hx; cases hx; exact ⟨y, rfl, rfl⟩
      have hj := (List.getElem?_eq_some_iff.mp hzj).1
      have het : zs.take (j + 1) = zs.take j ++ [z] := by rw [List.take_succ, hzj]; rfl
      refine ⟨[some (.f U), some t, some (.f d.val), some (.loc s.length), some (.f (.str z)), v5], [some (.f U), some t, some (.f d.val), some (.loc s.length), some (.f (.str z)), v5], s ++ [.dK (innD (if z ∈ il then il else il ++ [z]))], rfl, .inl ?_, if z ∈ il then il else il ++ [z], some (.f (.str z)), fun y => ?_, ?_, rfl, rfl⟩
      · refine run_st _ _ (b_put (a := 3) (i := s.length) (z := z) (v := .f (.bl true)) (l := innD il) rfl rfl rfl (new_get _ _) (by unfold innD; rw [List.length_map]; omega)) ?_
        rw [setK_inn]
        have e : (s ++ [Cell.dK (innD il)]).set s.length (.dK (innD (if z ∈ il then il else il ++ [z]))) = s ++ [.dK (innD (if z ∈ il then il else il ++ [z]))] := by
          rw [List.set_append_right _ _ (Nat.le_refl _), Nat.sub_self]; rfl
        rw [e]
        exact z_nil
      · rw [het]
        by_cases hm : z ∈ il
        · rw [if_pos hm, List.mem_append, hil y]
          constructor
          · exact .inl
          · rintro (q | q)
            · exact q
            · rw [List.mem_singleton.mp q]; exact (hil z).mp hm
        · rw [if_neg hm, List.mem_append, List.mem_append, hil y]
      · split
        · omega
        · rw [List.length_append, List.length_singleton]; omega)
  rw [List.length_map, List.length_map, List.take_length] at hil
  exact ⟨il, v, hil, hf⟩
/-- what a block's fault is, whatever dict holds the deed's names -/
def Blk (b : Nat) (tl : List (Str × Int)) (zs : List Str) (x r : F) : Prop := Flt r ∧ ∀ n, b ≤ n → ∀ t i il, (∀ z, z ∈ il ↔ z ∈ zs) → Pf n i_fault_of_block t i tl il x r
theorem o_fblocks {n b : Nat} (h : b + 1 ≤ n) {t : Nat} {tl : List (Str × Int)} {s : Sto} (hs : s[t]? = some (.dK (topD tl))) (nm : Str) (tk : List F) (ws : List Str) (ds : List Dd) (bs : List F) (g : Dd → F) (hd : ∀ d ∈ ds, (d.ps ++ d.os).length ≤ 100000 ∧ Blk b tl (d.ps ++ d.os) (.tup d.bs) (g d)) (rb : F) (hb : Blk b tl [] (.tup bs) rb) :
    ∃ s', callF T n i_fault_of_blocks [.f (untF nm tk ws ds bs), .loc t] s = .ok (.f (firstF (ds.map g ++ [rb]))) s' := by
  obtain ⟨n, rfl⟩ : ∃ m, n = m + 1 := ⟨n - 1, by omega⟩
  rw [call_eq (F := F_fault_of_blocks) rfl rfl]
  have hgs : ∀ x ∈ ds.map g, Flt x := fun x hx => by
    obtain ⟨y, hy, rfl⟩ := List.mem_map.mp hx
    exact (hd y hy).2.1
  obtain ⟨G, hG⟩ : ∃ G : D → F, ∀ d ∈ ds, G (.f d.val) = g d := by
    classical
    refine ⟨fun x => if hx : ∃ d ∈ ds, x = .f d.val then g (Classical.choose hx) else .non, fun d hdm => ?_⟩
    have hx : ∃ d2 ∈ ds, D.f d.val = .f d2.val := ⟨d, hdm, rfl⟩
    simp only [hx, dif_pos]
    have hc := Classical.choose_spec hx
    have e2 : Classical.choose hx = d := by
      have e := hc.2
      generalize Classical.choose hx = d2 at *
      simp only [Dd.val, D.f.injEq, F.tup.injEq, List.cons.injEq, F.str.injEq, and_true] at e
      have inj : ∀ a b : List Str, a.map F.str = b.map F.str → a = b := fun a b hab => by
        have : Function.Injective F.str := fun x y q => by cases q; rfl
        exact (List.map_inj_right fun x y q => this q).mp hab
      obtain ⟨e1, e2, e3, e4⟩ := e
      cases d; cases d2
      simp only at e1 e2 e3 e4
      rw [inj _ _ e2, inj _ _ e3, e1, e4]
    rw [e2]
  have hf := for_first2 (call := callF T n) (mk := callM T n) (sub := T.sub) (env := [some (.f (untF nm tk ws ds bs)), some (.loc t), none, none, none, none]) (s := s) (p := .one 2) (it := .seq (.idx (.v 0) (.k (.int 3)))) (b := [.set 3 (.dic false), .for_ (.one 4) (.seq (.bin (.add false) (.idx (.v 2) (.k (.int 1))) (.idx (.v 2) (.k (.int 2))))) [.iset (.v 3) (.v 4) (.k (.bl true))], .set 5 (.calli i_fault_of_block [(.idx (.v 2) (.k (.int 3))), (.v 1), (.v 3)]), .ite (.cmp .nis (.v 5) (.k .non)) [.ret (.v 5)] []]) (items := (ds.map Dd.val).map D.f) rfl
    G (fun env s' => (∃ a b c d, env = [some (.f (untF nm tk ws ds bs)), some (.loc t), a, b, c, d]) ∧ s'[t]? = some (.dK (topD tl))) ⟨⟨none, none, none, none, rfl⟩, hs⟩ (fun x hx env s2 ⟨⟨a, b3, c, v5, hev⟩, hs2⟩ => by
      subst hev
      obtain ⟨y, hy, rfl⟩ := List.mem_map.mp hx
      obtain ⟨d, hdm, rfl⟩ := List.mem_map.mp hy
      obtain ⟨hlen, hfl, hbk⟩ := hd d hdm
      rw [hG d hdm]
      refine ⟨[some (.f (untF nm tk ws ds bs)), some (.loc t), some (.f d.val), b3, c, v5], rfl, ?_⟩
      obtain ⟨il, v, hil, hfor⟩ := o_inner (call := callF T n) (mk := callM T n) (sub := T.sub) (d.ps ++ d.os) hlen s2 (untF nm tk ws ds bs) (.loc t) d rfl c v5
      have hTI : TI t s2.length tl il (s2 ++ [.dK (innD il)]) := ⟨new_oth hs2, new_get _ _⟩
      have hc := hbk n (by omega) t s2.length il hil _ hTI
      have hm : evE (callF T n) (callM T n) (.calli i_fault_of_block [(.idx (.v 2) (.k (.int 3))), (.v 1), (.v 3)]) [some (.f (untF nm tk ws ds bs)), some (.loc t), some (.f d.val), some (.loc s2.length), v, v5] (s2 ++ [.dK (innD il)]) = .ok (.f (g d)) (s2 ++ [.dK (innD il)]) := by
        clear hfor hTI hil hbk hfl hlen hd hG hgs hs hs2 hx hy hb
        generalize s2 ++ [.dK (innD il)] = s3 at *
        generalize untF nm tk ws ds bs = U at *
        unfold Dd.val
        generalize s2.length = k at *
        (simp (disch := first | omega | assumption | rfl | (simp only [List.length_cons, List.length_nil, List.length_map, List.length_append, len_appS]; omega)) only [evA, evC, Nat.reduceAdd, Nat.reduceSub, Int.reduceLT, Int.reduceLE, Int.reduceNeg, Int.reduceToNat, Int.reducePow, Int.reduceAdd, Int.reduceMul, Int.reduceEq, Int.reduceSub, reduceIte, reduceCtorEq, *])
      have e := ev_nis (call := callF T n) (mk := callM T n) (env := [some (.f (untF nm tk ws ds bs)), some (.loc t), some (.f d.val), some (.loc s2.length), v, some (.f (g d))]) (s := s2 ++ [.dK (innD il)]) (k := 5) rfl hfl
      have go : ∀ o, exSs (callF T n) (callM T n) T.sub [.ite (.cmp .nis (.v 5) (.k .non)) [.ret (.v 5)] []] [some (.f (untF nm tk ws ds bs)), some (.loc t), some (.f d.val), some (.loc s2.length), v, some (.f (g d))] (s2 ++ [.dK (innD il)]) = o →
          exSs (callF T n) (callM T n) T.sub [.set 3 (.dic false), .for_ (.one 4) (.seq (.bin (.add false) (.idx (.v 2) (.k (.int 1))) (.idx (.v 2) (.k (.int 2))))) [.iset (.v 3) (.v 4) (.k (.bl true))], .set 5 (.calli i_fault_of_block [(.idx (.v 2) (.k (.int 3))), (.v 1), (.v 3)]), .ite (.cmp .nis (.v 5) (.k .non)) [.ret (.v 5)] []] [some (.f (untF nm tk ws ds bs)), some (.loc t), some (.f d.val), b3, c, v5] s2 = o := fun o ho => by
        have e0 : evE (callF T n) (callM T n) (.dic false) [some (.f (untF nm tk ws ds bs)), some (.loc t), some (.f d.val), b3, c, v5] s2 = .ok (.loc s2.length) (s2 ++ [.dK []]) := rfl
        rw [set_go e0]
        simp only [List.set_cons_succ, List.set_cons_zero]
        rw [z_cons, hfor, O.bind_nx, set_go hm]
        exact ho
      cases q : isN (g d) with
      | true =>
        rw [q] at e
        exact .inl ⟨rfl, _, _, go _ (no_st e z_nil), ⟨_, _, _, _, rfl⟩, new_oth hs2⟩
      | false =>
        rw [q] at e
        exact .inr ⟨rfl, _, go _ (ite_yes e (ret_go rfl))⟩)
  have em : ((ds.map Dd.val).map D.f).map G = ds.map g := by
    rw [List.map_map, List.map_map]
    exact List.map_congr_left fun d hdm => hG d hdm
  rw [em] at hf
  have hsn := firstF_snoc hgs hb.1
  rcases hf with ⟨q, env', s', hf, ⟨a, b3, c, v5, rfl⟩, hs'⟩ | ⟨q, s', hf⟩
  · rw [q, if_pos rfl] at hsn
    rw [hsn]
    have hTI : TI t s'.length tl [] (s' ++ [.dK []]) := ⟨new_oth hs', new_get _ _⟩
    have hc := hb.2 n (by omega) t s'.length [] (fun z => Iff.rfl) _ hTI
    refine ⟨s' ++ [.dK []], ?_⟩
    have key : exSs (callF T n) (callM T n) T.sub B_fault_of_blocks [some (.f (untF nm tk ws ds bs)), some (.loc t), none, none, none, none] s = .rt (.f rb) (s' ++ [.dK []]) := by
      refine run_st _ _ hf (ret_go ?_)
      have e1 : evE (callF T n) (callM T n) (.idx (.v 0) (.k (.int 4))) [some (.f (untF nm tk ws ds bs)), some (.loc t), a, b3, c, v5] s' = .ok (.f (.tup bs)) s' := rfl
      rw [x_calli, x_cons, e1]
      exact hc
    show (exSs (callF T n) (callM T n) T.sub B_fault_of_blocks [some (.f (untF nm tk ws ds bs)), some (.loc t), none, none, none, none] s).res = _
    rw [key]; rfl
  · rw [q, if_neg (by decide)] at hsn
    rw [hsn]
    refine ⟨s', ?_⟩
    have key : exSs (callF T n) (callM T n) T.sub B_fault_of_blocks [some (.f (untF nm tk ws ds bs)), some (.loc t), none, none, none, none] s = .rt (.f (firstF (ds.map g))) s' := ret_st hf
    show (exSs (callF T n) (callM T n) T.sub B_fault_of_blocks [some (.f (untF nm tk ws ds bs)), some (.loc t), none, none, none, none] s).res = _
    rw [key]; rfl


end K11

namespace K11
open PySem JM L2
/-! ### a unit without a face and takes -/
theorem e_inE (z : Str) (s : Sto) : cIn (.f (.str z)) (.f (.dct [])) s = .ok (.f (.bl false)) s := rfl
def hdOf (d : Dd) : Str × Int := (d.nm, (d.ps.length : Nat))
theorem o_fdeeds0 {n : Nat} (h : 1 ≤ n) {t : Nat} {tl : List (Str × Int)} {s : Sto} (hs : s[t]? = some (.dK (topD tl))) (htl : tl.length ≤ 100000) (nm : Str) (tk : List F) (ws : List Str) (ds : List Dd) (bs : List F) (hw : ds.length ≤ 100000) (hnd : ((tl.map (·.1)) ++ ds.map (·.nm)).Nodup) :
    ∃ s', callF T n i_fault_of_deeds [.f (untF nm tk ws ds bs), .f (.dct []), .loc t] s = .ok (.f .non) s' ∧ s'[t]? = some (.dK (topD (tl ++ ds.map hdOf))) := by
  obtain ⟨n, rfl⟩ : ∃ m, n = m + 1 := ⟨n - 1, by omega⟩
  rw [call_eq (F := F_fault_of_deeds) rfl rfl]
  have ht := lt_of_get hs
  obtain ⟨env', s', hf, ⟨v4, v5, v6, rfl⟩, hs1, dn, hdn, hdl⟩ := for_run (call := callF T n) (mk := callM T n) (sub := T.sub) (env := [some (.f (untF nm tk ws ds bs)), some (.f (.dct [])), some (.loc t), some (.loc s.length), none, none, none]) (s := s ++ [.dK []]) (p := .one 4) (it := .seq (.idx (.v 0) (.k (.int 3))))
    (b := [.set 5 (.idx (.v 4) (.k (.int 0))), .set 6 (.and [(.cmp .isin (.v 5) (.v 1)), (.cmp .ne (.idx (.v 1) (.v 5)) (.g "WORD" (.int (-1)))), (.cmp .nin (.v 5) (.v 3))]), .ite (.and [(.cmp .isin (.v 5) (.v 2)), (.not (.v 6))]) [.ret (.tup [(.k (.str "twice")), (.v 5)])] [], .ite (.and [(.v 6), (.cmp .ne (.idx (.v 1) (.v 5)) (.bi .len [(.idx (.v 4) (.k (.int 1)))]))]) [.ret (.tup [(.k (.str "count")), (.v 5)])] [], .iset (.v 3) (.v 5) (.k (.bl true)), .iset (.v 2) (.v 5) (.bi .len [(.idx (.v 4) (.k (.int 1)))])]) (items := (ds.map Dd.val).map D.f) rfl
    (fun j env s' => (∃ a b c, env = [some (.f (untF nm tk ws ds bs)), some (.f (.dct [])), some (.loc t), some (.loc s.length), a, b, c]) ∧ s'[t]? = some (.dK (topD (tl ++ (ds.take j).map hdOf))) ∧ ∃ dn, s'[s.length]? = some (.dK (innD dn)) ∧ dn.length ≤ j)
    ⟨⟨none, none, none, rfl⟩, by rw [List.take_zero, List.map_nil, List.append_nil]; exact new_oth hs, [], new_get _ _, by simp⟩ (fun j x env s2 hx hP => by
      obtain ⟨⟨a, b, c, rfl⟩, hs2, dn, hdn, hdl⟩ := hP
      obtain ⟨d, hdj, rfl⟩ : ∃ d, ds[j]? = some d ∧ x = .f d.val := by
        rw [List.getElem?_map, List.getElem?_map] at hx
        cases e : ds[j]? with
        | none => rw [e] at hx; cases hx
        | some y => rw [e] at hx; cases hx; exact ⟨y, rfl, rfl⟩
      have hj := (List.getElem?_eq_some_iff.mp hdj).1
      have het : ds.take (j + 1) = ds.take j ++ [d] := by rw [List.take_succ, hdj]; rfl
      have hnew : d.nm ∉ (tl ++ (ds.take j).map hdOf).map (·.1) := fun hm => by
        rw [List.map_append, List.map_map] at hm
        have e1 : ((fun p : Str × Int => p.1) ∘ hdOf) = Dd.nm := rfl
        rw [e1] at hm
        rw [List.nodup_append] at hnd
        obtain ⟨a1, a2, a3⟩ := hnd
        rcases List.mem_append.mp hm with q | q
        · exact a3 _ q _ (List.mem_map.mpr ⟨d, List.mem_of_getElem? hdj, rfl⟩) rfl
        · rw [List.map_take] at q
          obtain ⟨k, hk, ek⟩ := List.getElem_of_mem q
          rw [List.length_take, List.length_map] at hk
          rw [List.getElem_take] at ek
          have h3 := (List.getElem?_eq_some_iff.mp hdj).2
          have h4 : (ds.map Dd.nm)[j]'(by rw [List.length_map]; exact hj) = d.nm := by rw [List.getElem_map, h3]
          have := (List.getElem_inj (xs := ds.map Dd.nm) (h₀ := by rw [List.length_map]; omega) (h₁ := by rw [List.length_map]; exact hj) a2).mp (ek.trans h4.symm)
          omega
      have hin := e_inD hs2 d.nm
      rw [getK_top, lk_none hnew] at hin
      replace hin : cIn (.f (.str d.nm)) (.loc t) s2 = .ok (.f (.bl false)) s2 := hin
      have hne : s.length ≠ t := by omega
      have i1 := e_inE d.nm
      have hlt : (topD (tl ++ (ds.take j).map hdOf)).length ≤ 200000 := by
        unfold topD
        rw [List.length_map, List.length_append, List.length_map, List.length_take]; omega
      have hli : (innD dn).length ≤ 200000 := by unfold innD; rw [List.length_map]; omega
      generalize hU : untF nm tk ws ds bs = U at *
      have m1 : evE (callF T n) (callM T n) (.and [(.cmp .isin (.v 5) (.v 1)), (.cmp .ne (.idx (.v 1) (.v 5)) (.g "WORD" (.int (-1)))), (.cmp .nin (.v 5) (.v 3))]) [some (.f U), some (.f (.dct [])), some (.loc t), some (.loc s.length), some (.f d.val), some (.f (.str d.nm)), c] s2 = .ok (.f (.bl false)) s2 := by
        clear hin hs2 hdn hnew het hnd hx hdj hs hU
        generalize s.length = k at *
        (simp (disch := first | omega | assumption | rfl | (simp only [List.length_cons, List.length_nil, List.length_map, List.length_append, len_appS]; omega)) only [evA, evC, Nat.reduceAdd, Nat.reduceSub, Int.reduceLT, Int.reduceLE, Int.reduceNeg, Int.reduceToNat, Int.reducePow, Int.reduceAdd, Int.reduceMul, Int.reduceEq, Int.reduceSub, reduceIte, reduceCtorEq, *])
      have m2 : evE (callF T n) (callM T n) (.and [(.cmp .isin (.v 5) (.v 2)), (.not (.v 6))]) [some (.f U), some (.f (.dct [])), some (.loc t), some (.loc s.length), some (.f d.val), some (.f (.str d.nm)), some (.f (.bl false))] s2 = .ok (.f (.bl false)) s2 := by
        clear i1 m1 hs2 hdn hnew het hnd hx hdj hs hU
        generalize s.length = k at *
        (simp (disch := first | omega | assumption | rfl | (simp only [List.length_cons, List.length_nil, List.length_map, List.length_append, len_appS]; omega)) only [evA, evC, Nat.reduceAdd, Nat.reduceSub, Int.reduceLT, Int.reduceLE, Int.reduceNeg, Int.reduceToNat, Int.reducePow, Int.reduceAdd, Int.reduceMul, Int.reduceEq, Int.reduceSub, reduceIte, reduceCtorEq, *])
      have m3 : evE (callF T n) (callM T n) (.and [(.v 6), (.cmp .ne (.idx (.v 1) (.v 5)) (.bi .len [(.idx (.v 4) (.k (.int 1)))]))]) [some (.f U), some (.f (.dct [])), some (.loc t), some (.loc s.length), some (.f d.val), some (.f (.str d.nm)), some (.f (.bl false))] s2 = .ok (.f (.bl false)) s2 := by
        clear i1 hin m1 m2 hs2 hdn hnew het hnd hx hdj hs hU
        generalize s.length = k at *
        (simp (disch := first | omega | assumption | rfl | (simp only [List.length_cons, List.length_nil, List.length_map, List.length_append, len_appS]; omega)) only [evA, evC, Nat.reduceAdd, Nat.reduceSub, Int.reduceLT, Int.reduceLE, Int.reduceNeg, Int.reduceToNat, Int.reducePow, Int.reduceAdd, Int.reduceMul, Int.reduceEq, Int.reduceSub, reduceIte, reduceCtorEq, *])
      have m4 : ∀ s3, evE (callF T n) (callM T n) (.bi .len [(.idx (.v 4) (.k (.int 1)))]) [some (.f U), some (.f (.dct [])), some (.loc t), some (.loc s.length), some (.f d.val), some (.f (.str d.nm)), some (.f (.bl false))] s3 = .ok (.f (.int (d.ps.length : Nat))) s3 := fun s3 => by
        have hl : (d.ps.map F.str).length = d.ps.length := List.length_map ..
        clear i1 hin m1 m2 m3 hs2 hdn hnew het hnd hx hdj hs hU hli hlt
        unfold Dd.val
        generalize d.ps.map F.str = A at *
        generalize d.ps.length = m at *
        subst hl
        generalize s.length = k at *
        (simp (disch := first | omega | assumption | rfl | (simp only [List.length_cons, List.length_nil, List.length_map, List.length_append, len_appS]; omega)) only [evA, evC, Nat.reduceAdd, Nat.reduceSub, Int.reduceLT, Int.reduceLE, Int.reduceNeg, Int.reduceToNat, Int.reducePow, Int.reduceAdd, Int.reduceMul, Int.reduceEq, Int.reduceSub, reduceIte, reduceCtorEq])
      clear hin i1
      have hs3 : (s2.set s.length (.dK (setK (innD dn) (.inr d.nm : Key) (.f (.bl true)))))[t]? = some (.dK (topD (tl ++ (ds.take j).map hdOf))) := by rw [set_oth hne]; exact hs2
      refine ⟨[some (.f U), some (.f (.dct [])), some (.loc t), some (.loc s.length), some (.f d.val), b, c], [some (.f U), some (.f (.dct [])), some (.loc t), some (.loc s.length), some (.f d.val), some (.f (.str d.nm)), some (.f (.bl false))], (s2.set s.length (.dK (setK (innD dn) (.inr d.nm : Key) (.f (.bl true))))).set t (.dK (setK (topD (tl ++ (ds.take j).map hdOf)) (.inr d.nm : Key) (.f (.int (d.ps.length : Nat))))), rfl, .inl ?_, ⟨_, _, _, rfl⟩, ?_, if d.nm ∈ dn then dn else dn ++ [d.nm], ?_, ?_⟩
      · refine set_st (.f (.str d.nm)) rfl (set_st (.f (.bl false)) m1 (no_st m2 (no_st m3 (run_st _ _ (b_put (a := 3) (i := s.length) (z := d.nm) (v := .f (.bl true)) (l := innD dn) rfl rfl rfl hdn (by omega)) (run_st _ _ (b_put (a := 2) (i := t) (z := d.nm) (v := .f (.int (d.ps.length : Nat))) (l := topD (tl ++ (ds.take j).map hdOf)) rfl rfl (m4 _) hs3 (by omega)) z_nil)))))
      · rw [set_get (by rw [List.length_set]; exact lt_of_get hs2), setK_top hnew, het, List.map_append, ← List.append_assoc]
        rfl
      · rw [set_oth (Ne.symm hne), setK_inn, set_get (lt_of_get hdn)]
      · split
        · omega
        · rw [List.length_append, List.length_singleton]; omega)
  rw [List.length_map, List.length_map, List.take_length] at hs1
  refine ⟨s', ?_, hs1⟩
  have key : exSs (callF T n) (callM T n) T.sub B_fault_of_deeds [some (.f (untF nm tk ws ds bs)), some (.f (.dct [])), some (.loc t), none, none, none, none] s = .rt (.f .non) s' := by
    have e0 : evE (callF T n) (callM T n) (.dic false) [some (.f (untF nm tk ws ds bs)), some (.f (.dct [])), some (.loc t), none, none, none, none] s = .ok (.loc s.length) (s ++ [.dK []]) := rfl
    unfold B_fault_of_deeds
    rw [set_go e0]
    simp only [List.set_cons_succ, List.set_cons_zero]
    rw [z_cons, hf, O.bind_nx]
    exact run_st [some (.f (untF nm tk ws ds bs)), some (.f (.dct [])), some (.loc t), some (.loc s.length), v4, v5, v6] s' rfl (ret_go rfl)
  show (exSs (callF T n) (callM T n) T.sub B_fault_of_deeds [some (.f (untF nm tk ws ds bs)), some (.f (.dct [])), some (.loc t), none, none, none, none] s).res = _
  rw [key]; rfl
theorem o_told0 {n : Nat} (h : 1 ≤ n) : callF T n i_told_by [.f .non] [] = .ok (.loc 0) [.dK []] := by
  obtain ⟨n, rfl⟩ : ∃ m, n = m + 1 := ⟨n - 1, by omega⟩
  rw [call_eq (F := F_told_by) rfl rfl]
  rfl
theorem o_takes0 {n : Nat} (h : 1 ≤ n) (nm : Str) (ws : List Str) (ds : List Dd) (bs : List F) (f t : D) (s : Sto) : callF T n i_fault_of_takes [.f (untF nm [] ws ds bs), f, t] s = .ok (.f .non) s := by
  obtain ⟨n, rfl⟩ : ∃ m, n = m + 1 := ⟨n - 1, by omega⟩
  rw [call_eq (F := F_fault_of_takes) rfl rfl]
  rfl
theorem o_fault0 {n b : Nat} (h : b + 2 ≤ n) (h2 : 3 ≤ n) (nm : Str) (ws : List Str) (ds : List Dd) (bs : List F) (hw : ws.length ≤ 1000) (hl : ds.length ≤ 1000) (hnd : (ws ++ ds.map (·.nm)).Nodup) (g : Dd → F) (hd : ∀ d ∈ ds, (d.ps ++ d.os).length ≤ 100000 ∧ Blk b ((ws.map fun z => (z, (-1 : Int))) ++ ds.map hdOf) (d.ps ++ d.os) (.tup d.bs) (g d)) (rb : F) (hb : Blk b ((ws.map fun z => (z, (-1 : Int))) ++ ds.map hdOf) [] (.tup bs) rb) (f : D) (s : Sto) :
    ∃ s', callF T n i_fault_of [.f (untF nm [] ws ds bs), f, .f .non] s = .ok (.f (firstF (ds.map g ++ [rb]))) s' := by
  obtain ⟨n, rfl⟩ : ∃ m, n = m + 1 := ⟨n - 1, by omega⟩
  rw [call_eq (F := F_fault_of) rfl rfl]
  have c1 := o_told0 (n := n) (by omega)
  have s1 : (s ++ [Cell.dK []])[s.length]? = some (.dK (topD [])) := new_get _ _
  have c2 := o_takes0 (n := n) (by omega) nm ws ds bs f (.loc s.length) (s ++ [.dK []])
  have c3 := o_fwords (n := n) (by omega) s1 (by simp) nm [] ws ds bs (by omega) (by
    rw [List.map_nil, List.nil_append]
    exact (List.nodup_append.mp hnd).1)
  have s2 : ((s ++ [Cell.dK []]).set s.length (.dK (topD ([] ++ ws.map fun z => (z, (-1 : Int))))))[s.length]? = some (.dK (topD ([] ++ ws.map fun z => (z, (-1 : Int))))) := set_get (by simp)
  rw [List.nil_append] at c3 s2
  generalize (s ++ [Cell.dK []]).set s.length (.dK (topD (ws.map fun z => (z, (-1 : Int))))) = st2 at *
  have emap : (ws.map fun z => (z, (-1 : Int))).map (·.1) = ws := by
    rw [List.map_map]; exact List.map_id' ws
  obtain ⟨st3, c4, s3⟩ := o_fdeeds0 (n := n) (by omega) s2 (by rw [List.length_map]; omega) nm [] ws ds bs (by omega) (by rw [emap]; exact hnd)
  obtain ⟨st4, c5⟩ := o_fblocks (n := n) (b := b) (by omega) s3 nm [] ws ds bs g hd rb hb
  refine ⟨st4, ?_⟩
  clear hd hb hnd s1 s2 s3 emap
  generalize firstF (ds.map g ++ [rb]) = r at *
  generalize untF nm [] ws ds bs = U at *
  have key : exSs (callF T n) (callM T n) T.sub B_fault_of [some (.f U), some f, some (.f .non), none, none, none] s = .rt (.f r) st4 := by
    have e1 : evE (callF T n) (callM T n) (.call i_told_by [(.v 2)]) [some (.f U), some f, some (.f .non), none, none, none] s = .ok (.f (.dct [])) s := by
      rw [x_call, x_cons, x_v]
      simp only [List.getElem?_cons_succ, List.getElem?_cons_zero, R.bind_ok, x_nil]
      show pureR s (callF T n i_told_by [.f .non] []) = _
      rw [c1]
      rfl
    have e2 : evE (callF T n) (callM T n) (.bi .dict [(.v 3)]) [some (.f U), some f, some (.f .non), some (.f (.dct [])), none, none] s = .ok (.loc s.length) (s ++ [.dK []]) := rfl
    have e3 : evE (callF T n) (callM T n) (.calli i_fault_of_takes [(.v 0), (.v 1), (.v 4)]) [some (.f U), some f, some (.f .non), some (.f (.dct [])), some (.loc s.length), none] (s ++ [.dK []]) = .ok (.f .non) (s ++ [.dK []]) := by
      rw [x_calli, x_cons, x_v]
      simp only [List.getElem?_cons_succ, List.getElem?_cons_zero, R.bind_ok, x_nil, x_cons, x_v]
      exact c2
    have e4 : evE (callF T n) (callM T n) (.calli i_fault_of_words [(.v 0), (.v 4)]) [some (.f U), some f, some (.f .non), some (.f (.dct [])), some (.loc s.length), some (.f .non)] (s ++ [.dK []]) = .ok (.f .non) st2 := by
      rw [x_calli, x_cons, x_v]
      simp only [List.getElem?_cons_succ, List.getElem?_cons_zero, R.bind_ok, x_nil, x_cons, x_v]
      exact c3
    have e5 : evE (callF T n) (callM T n) (.calli i_fault_of_deeds [(.v 0), (.v 3), (.v 4)]) [some (.f U), some f, some (.f .non), some (.f (.dct [])), some (.loc s.length), some (.f .non)] st2 = .ok (.f .non) st3 := by
      rw [x_calli, x_cons, x_v]
      simp only [List.getElem?_cons_succ, List.getElem?_cons_zero, R.bind_ok, x_nil, x_cons, x_v]
      exact c4
    have e6 : evE (callF T n) (callM T n) (.calli i_fault_of_blocks [(.v 0), (.v 4)]) [some (.f U), some f, some (.f .non), some (.f (.dct [])), some (.loc s.length), some (.f .non)] st3 = .ok (.f r) st4 := by
      rw [x_calli, x_cons, x_v]
      simp only [List.getElem?_cons_succ, List.getElem?_cons_zero, R.bind_ok, x_nil, x_cons, x_v]
      exact c5
    have ei : ∀ s, evE (callF T n) (callM T n) (.cmp .is_ (.v 5) (.k .non)) [some (.f U), some f, some (.f .non), some (.f (.dct [])), some (.loc s.length), some (.f .non)] s = .ok (.f (.bl true)) s := fun s => rfl
    have ei : ∀ s2 : Sto, evE (callF T n) (callM T n) (.cmp .is_ (.v 5) (.k .non)) [some (.f U), some f, some (.f .non), some (.f (.dct [])), some (.loc s.length), some (.f .non)] s2 = .ok (.f (.bl true)) s2 := fun s2 => rfl
    unfold B_fault_of
    rw [set_go e1]
    simp only [List.set_cons_succ, List.set_cons_zero]
    rw [set_go e2]
    simp only [List.set_cons_succ, List.set_cons_zero]
    rw [set_go e3]
    simp only [List.set_cons_succ, List.set_cons_zero]
    refine go_st [some (.f U), some f, some (.f .non), some (.f (.dct [])), some (.loc s.length), some (.f .non)] st2 (ei _) (by rw [set_go e4]; exact z_nil) ?_
    refine go_st [some (.f U), some f, some (.f .non), some (.f (.dct [])), some (.loc s.length), some (.f .non)] st3 (ei _) (by rw [set_go e5]; exact z_nil) ?_
    refine go_st [some (.f U), some f, some (.f .non), some (.f (.dct [])), some (.loc s.length), some (.f r)] st4 (ei _) (by rw [set_go e6]; exact z_nil) ?_
    exact ret_go rfl
  show (exSs (callF T n) (callM T n) T.sub B_fault_of [some (.f U), some f, some (.f .non), none, none, none] s).res = _
  rw [key]; rfl


end K11

namespace K11
open PySem JM L2
/-! ### one unit's names: both sides mean the same -/
theorem lk_app (a b : List (Str × Int)) (z : Str) : lk (a ++ b) z = (lk a z).or (lk b z) := by
  unfold lk
  rw [List.find?_append]
  cases a.find? fun p => decide (p.1 = z) <;> rfl
theorem lk_wd : ∀ (ws : List Str) (z : Str), lk (ws.map fun z => (z, (-1 : Int))) z = if z ∈ ws then some (-1) else none
  | [], z => by simp [lk]
  | w :: ws, z => by
    have ih := lk_wd ws z
    unfold lk at *
    rw [List.map_cons, List.find?_cons]
    by_cases h : w = z
    · subst h
      simp
    · rw [decide_eq_false h]
      simp only
      rw [ih]
      by_cases hz : z ∈ ws
      · rw [if_pos hz, if_pos (List.mem_cons_of_mem _ hz)]
      · rw [if_neg hz, if_neg fun q => by
          rcases List.mem_cons.mp q with e | q
          · exact h e.symm
          · exact hz q]
theorem lk_filter (zs : List Str) {z : Str} (h : z ∉ zs) : ∀ l : List (Str × Int), lk (l.filter fun p => decide (p.1 ∉ zs)) z = lk l z
  | [] => rfl
  | p :: l => by
    have ih := lk_filter zs h l
    rw [List.filter_cons]
    by_cases hp : p.1 ∈ zs
    · have e : p.1 ≠ z := fun q => h (q ▸ hp)
      rw [decide_eq_false (fun q => q hp), if_neg (by decide), ih]
      unfold lk
      rw [List.find?_cons, decide_eq_false e]
    · rw [decide_eq_true hp, if_pos rfl]
      unfold lk at *
      rw [List.find?_cons, List.find?_cons]
      cases decide (p.1 = z) with
      | true => rfl
      | false => exact ih
theorem mn_of (ws : List Str) (hd : List (Str × Int)) (zs il : List Str) (h : ∀ z, z ∈ il ↔ z ∈ zs) (hl : hd.length ≤ 1000) (hc : ∀ p ∈ hd, 0 ≤ p.2) : Mn ((ws.map fun z => (z, (-1 : Int))) ++ hd) il (ws ++ zs) (hd.filter fun p => decide (p.1 ∉ zs)) where
  same := fun z => by
    unfold Kp Kl
    by_cases hz : z ∈ zs
    · rw [if_pos ((h z).mpr hz), if_pos (List.mem_append_right _ hz)]
    · rw [if_neg fun q => hz ((h z).mp q), lk_app, lk_wd]
      by_cases hw : z ∈ ws
      · rw [if_pos hw, if_pos (List.mem_append_left _ hw)]; rfl
      · rw [if_neg hw, if_neg fun q => by
          rcases List.mem_append.mp q with q | q
          · exact hw q
          · exact hz q, lk_filter zs hz]
        rfl
  len := Nat.le_trans (List.length_filter_le _ _) (by omega)
  pos := fun p hp => hc p (List.mem_filter.mp hp).1
/-- a block's fault, whatever dict holds the deed's names -/
theorem blk_uni {nm dd pl : List F} (hN : Nms nm) (hdd : Dds dd) (hP : Pln pl) (ws : List Str) (hd : List (Str × Int)) (zs : List Str) (hl : hd.length ≤ 1000) (hc : ∀ p ∈ hd, 0 ≤ p.2) (bs : List F) (hbl : bs.length ≤ 1000) (hbs : ∀ x ∈ bs, Sm nm dd pl 2 x) :
    ∃ r, Blk 16 ((ws.map fun z => (z, (-1 : Int))) ++ hd) zs (.tup bs) r ∧ ∀ n, 16 ≤ n → Lf n i__law_fault_of_block (ws ++ zs) (hd.filter fun p => decide (p.1 ∉ zs)) (.tup bs) r := by
  have all : ∀ (t i : Nat) (il : List Str), (∀ z, z ∈ il ↔ z ∈ zs) → ∃ r, Al2 16 i_fault_of_block i__law_fault_of_block t i ((ws.map fun z => (z, (-1 : Int))) ++ hd) il (ws ++ zs) (hd.filter fun p => decide (p.1 ∉ zs)) (.tup bs) r := fun t i il h => by
    have hM := mn_of ws hd zs il h hl hc
    obtain ⟨g, hg⟩ := pickF (l := bs) (Q := fun x r => Al2 15 i_fault_of_statement i__law_fault_of_statement t i ((ws.map fun z => (z, (-1 : Int))) ++ hd) il (ws ++ zs) (hd.filter fun p => decide (p.1 ∉ zs)) x r) fun x hx => o_fs hM hN hdd hP (hbs x hx)
    exact ⟨_, al2_blk (by omega) g bs (by omega) hg⟩
  obtain ⟨r, hr⟩ := all 0 1 zs fun z => Iff.rfl
  refine ⟨r, ⟨hr.1, fun n hn t i il h => ?_⟩, fun n hn => (hr.2 n hn).2⟩
  obtain ⟨r2, hr2⟩ := all t i il h
  have e1 := (hr.2 16 (Nat.le_refl _)).2 []
  have e2 := (hr2.2 16 (Nat.le_refl _)).2 []
  rw [e1] at e2
  cases e2
  exact (hr2.2 n hn).1
theorem e_eqF {r : F} (h : Flt r) (s : Sto) : cEq (.f r) (.f r) s = .ok (.f (.bl true)) s := by
  rcases h with rfl | ⟨a, b, rfl⟩
  · rfl
  · have e : eqF (.tup [.str a, .str b]) (.tup [.str a, .str b]) = true := by
      unfold eqF
      simp only [F.py, F.pys]
      simp [PyData.eqv, PyData.eqvAll]
    show (if cmpable (.tup [.str a, .str b]) (.tup [.str a, .str b]) = true then JM.R.ok (D.f (.bl (eqF (.tup [.str a, .str b]) (.tup [.str a, .str b])))) s else .fail) = _
    rw [e]
    rfl
theorem e_mulLs (l : List F) (j : Int) (hj : 0 ≤ j ∧ j ≤ 10) (hl : l.length ≤ 100) (s : Sto) : bMul false (.f (.lst l)) (.f (.int j)) s = .ok (.f (.lst (List.replicate j.toNat l).flatten)) s := by
  show (if 0 ≤ j ∧ j ≤ 100000 ∧ l.length ≤ 100 then newL false ((List.replicate j.toNat (l.map D.f)).flatten) s else .fail) = _
  rw [if_pos ⟨hj.1, by omega, hl⟩]
  have e : (List.replicate j.toNat (l.map D.f)).flatten = ((List.replicate j.toNat l).flatten).map D.f := by
    rw [List.map_flatten, List.map_replicate]
  rw [e]
  refine c_newL _ ?_
  rw [List.length_flatten, List.map_replicate, List.sum_replicate_nat]
  have : j.toNat * l.length ≤ 10 * 100 := Nat.mul_le_mul (by omega) hl
  omega
theorem rep_mem {l : List F} {j : Nat} {x : F} (h : x ∈ (List.replicate j l).flatten) : x ∈ l := by
  obtain ⟨m, hm, hx⟩ := List.mem_flatten.mp h
  rw [(List.mem_replicate.mp hm).2] at hx
  exact hx
theorem rep_len (l : List F) (j : Nat) : (List.replicate j l).flatten.length = j * l.length := by
  rw [List.length_flatten, List.map_replicate, List.sum_replicate_nat]
theorem zz_pn : Pn (Str.ofString "zz") := ⟨by decide +kernel, by decide +kernel⟩
theorem zy_pn : Pn (Str.ofString "zy") := ⟨by decide +kernel, by decide +kernel⟩
/-- names of all sorts -/
theorem o_mess {n : Nat} (h : 1 ≤ n) (c : Int) (W : List Str) (DD : List (Str × Int)) (hW : 0 < W.length ∧ W.length ≤ 30) (hWn : ∀ z ∈ W, Pn z) (hD : DD.length ≤ 10) (hDn : ∀ p ∈ DD, Pn p.1 ∧ 0 ≤ p.2 ∧ p.2 ≤ 3) :
    ∃ nm dd pl, Nms nm ∧ Dds dd ∧ Pln pl ∧ ∀ s, callF T n i__law_mess [.f (.int c), .f (.lst (W.map F.str)), .f (.lst (DD.map prF))] s = .ok (.f (.tup [.lst nm, .lst dd, .lst pl])) s := by
  obtain ⟨n, rfl⟩ : ∃ m, n = m + 1 := ⟨n - 1, by omega⟩
  have a1 := fm_lo c 3 (by decide)
  have a2 := fm_hi c 3 (by decide)
  have b1 := fm_lo (c.fdiv 3) 2 (by decide)
  have b2 := fm_hi (c.fdiv 3) 2 (by decide)
  have c1 := fm_lo (c.fdiv 6) 2 (by decide)
  have c2 := fm_hi (c.fdiv 6) 2 (by decide)
  have d1 := fm_lo (c.fdiv 12) 3 (by decide)
  have d2 := fm_hi (c.fdiv 12) 3 (by decide)
  have e1 := fm_lo (c.fdiv 144) 2 (by decide)
  have e2 := fm_hi (c.fdiv 144) 2 (by decide)
  have hLl : (W.map F.str).length = W.length := List.length_map ..
  have hDl : (DD.map prF).length = DD.length := List.length_map ..
  have hitems : ∀ (env : Env') (i : Nat) (l : List (Str × Int)), env[i]? = some (some (.f (.lst (l.map prF)))) → ∀ s, evIt (callF T n) (callM T n) (.seq (.v i)) env s = .ok (l.map fun p => D.f (prF p)) s := fun env i l he s => by
    rw [y_seq, x_v, he]
    simp only [R.bind_ok, it_lst, List.map_map]
    rfl
  -- the names
  have m1 := fun s => e_mulLs (W.map F.str) (1 + c.fmod 3) (by omega) (by omega) s
  have l1 := rep_len (W.map F.str) (1 + c.fmod 3).toNat
  have l1b : (1 + c.fmod 3).toNat * (W.map F.str).length ≤ 3 * 30 := Nat.mul_le_mul (by omega) (by omega)
  have l1c : 0 < (1 + c.fmod 3).toNat * (W.map F.str).length := Nat.mul_pos (by omega) (by omega)
  have q1 : ∀ x ∈ (List.replicate (1 + c.fmod 3).toNat (W.map F.str)).flatten, ∃ z, x = .str z ∧ Pn z := fun x hx => by
    obtain ⟨z, hz, rfl⟩ := List.mem_map.mp (rep_mem hx)
    exact ⟨z, rfl, hWn z hz⟩
  have lc1 := fun (v : Option D) s => lc_map (call := callF T n) (mk := callM T n) (env := [some (.f (.int c)), some (.f (.lst (W.map F.str))), some (.f (.lst (DD.map prF))), v, none, none, none]) (s := s) (it := .seq (.v 2)) (p := .tup [4, 5]) (c := none) (e := .v 4) (l := DD) (h := fun p => .f (prF p)) (g := fun p => some (.str p.1)) (hitems _ 2 DD rfl s) (fun p hp => ⟨_, rfl, turn_none rfl⟩) (by omega)
  simp only [fm_some] at lc1
  have l2 : ((DD.map fun p => F.str p.1)).length = DD.length := List.length_map ..
  have q2 : ∀ x ∈ (DD.map fun p => F.str p.1), ∃ z, x = .str z ∧ Pn z := fun x hx => by
    obtain ⟨p, hp, rfl⟩ := List.mem_map.mp hx
    exact ⟨p.1, rfl, (hDn p hp).1⟩
  generalize (DD.map fun p => F.str p.1) = M at *
  generalize (List.replicate (1 + c.fmod 3).toNat (W.map F.str)).flatten = A at *
  obtain ⟨j2, hj2⟩ : ∃ j : Nat, (c.fdiv 3).fmod 2 = (j : Int) := ⟨((c.fdiv 3).fmod 2).toNat, by omega⟩
  obtain ⟨j3, hj3⟩ : ∃ j : Nat, (c.fdiv 6).fmod 2 = (j : Int) := ⟨((c.fdiv 6).fmod 2).toNat, by omega⟩
  have k2 : cutL M none (some ((c.fdiv 3).fmod 2)) = M.take j2 := by rw [hj2, cut_take2]
  have k3 : cutL [F.str (Str.ofString "zz")] none (some ((c.fdiv 6).fmod 2)) = [F.str (Str.ofString "zz")].take j3 := by rw [hj3, cut_take2]
  have l3 : (M.take j2).length ≤ 10 := by rw [List.length_take]; omega
  have l4 : ([F.str (Str.ofString "zz")].take j3).length ≤ 1 := by rw [List.length_take]; exact Nat.min_le_right _ _
  have q3 : ∀ x ∈ M.take j2, ∃ z, x = .str z ∧ Pn z := fun x hx => q2 x (List.mem_of_mem_take hx)
  have q4 : ∀ x ∈ [F.str (Str.ofString "zz")].take j3, ∃ z, x = .str z ∧ Pn z := fun x hx => ⟨_, List.mem_singleton.mp (List.mem_of_mem_take hx), zz_pn⟩
  generalize hB : M.take j2 = B at *
  generalize hC : [F.str (Str.ofString "zz")].take j3 = C at *
  have hnm : Nms (A ++ B ++ C) := ⟨by rw [List.length_append, List.length_append]; omega, by rw [List.length_append, List.length_append]; omega, fun x hx => by
    rcases List.mem_append.mp hx with hx | hx
    · rcases List.mem_append.mp hx with hx | hx
      · exact q1 x hx
      · exact q3 x hx
    · exact q4 x hx⟩
  have g1 : ∀ s, evE (callF T n) (callM T n) (.bin (.add false) (.bin (.add false) (.bin (.mul false) (.v 1) (.bin (.add false) (.k (.int 1)) (.bin .mod (.v 0) (.k (.int 3))))) (.sl false (.lc false (.seq (.v 2)) (.tup [4, 5]) none (.v 4)) none (some (.bin .mod (.bin .fdiv (.v 0) (.k (.int 3))) (.k (.int 2)))))) (.sl false (.lst false [(.k (.str "zz"))]) none (some (.bin .mod (.bin .fdiv (.v 0) (.k (.int 6))) (.k (.int 2)))))) [some (.f (.int c)), some (.f (.lst (W.map F.str))), some (.f (.lst (DD.map prF))), none, none, none, none] s = .ok (.f (.lst (A ++ B ++ C))) s := fun s => by
    have lc := lc1 none s
    clear lc1 hitems q1 q2 q3 q4 hnm hWn hDn hB hC hj2 hj3 a1 a2 b1 b2 c1 c2 d1 d2 e1 e2
    have lA : A.length ≤ 90 := by omega
    have lM : M.length ≤ 10 := by omega
    clear l1 l1b l1c l2 hW hD
    generalize W.map F.str = L at *
    generalize DD.map prF = L2 at *
    generalize E.lc _ _ _ _ _ = e0 at lc ⊢
    (simp (disch := first | omega | assumption | rfl | (simp only [List.length_cons, List.length_nil, List.length_map, List.length_append, len_appS]; omega)) only [evA, evC, Nat.reduceAdd, Nat.reduceSub, Int.reduceLT, Int.reduceLE, Int.reduceNeg, Int.reduceToNat, Int.reducePow, Int.reduceAdd, Int.reduceMul, Int.reduceEq, Int.reduceSub, reduceIte, reduceCtorEq, *])
  clear lc1 m1 k2 k3 q1 q2 q3 q4 hB hC hj2 hj3 l1 l1b l1c l2 l3 l4 a1 a2 b1 b2 c1 c2
  generalize A ++ B ++ C = nm at *
  -- the deeds
  have m2 := fun s => e_mulLs (DD.map prF) (1 + (c.fdiv 12).fmod 3) (by omega) (by omega) s
  have l5 := rep_len (DD.map prF) (1 + (c.fdiv 12).fmod 3).toNat
  have l5b : (1 + (c.fdiv 12).fmod 3).toNat * (DD.map prF).length ≤ 3 * 10 := Nat.mul_le_mul (by omega) (by omega)
  have q5 : ∀ x ∈ (List.replicate (1 + (c.fdiv 12).fmod 3).toNat (DD.map prF)).flatten, ∃ z c, x = .tup [.str z, .int c] ∧ Pn z ∧ 0 ≤ c ∧ c ≤ 4 := fun x hx => by
    obtain ⟨p, hp, rfl⟩ := List.mem_map.mp (rep_mem hx)
    obtain ⟨u1, u2, u3⟩ := hDn p hp
    exact ⟨p.1, p.2, rfl, u1, u2, by omega⟩
  have s0 : ∃ D0, D0.length ≤ 30 ∧ (∀ x ∈ D0, ∃ z c, x = F.tup [.str z, .int c] ∧ Pn z ∧ 0 ≤ c ∧ c ≤ 4) ∧ ∀ s, evE (callF T n) (callM T n) (.bin (.mul false) (.v 2) (.bin (.add false) (.k (.int 1)) (.bin .mod (.bin .fdiv (.v 0) (.k (.int 12))) (.k (.int 3))))) [some (.f (.int c)), some (.f (.lst (W.map F.str))), some (.f (.lst (DD.map prF))), some (.f (.lst nm)), none, none, none] s = .ok (.f (.lst D0)) s := by
    refine ⟨_, by rw [l5]; exact l5b, q5, fun s => ?_⟩
    clear hitems q5 l5 l5b hnm hWn hDn g1
    generalize (List.replicate (1 + (c.fdiv 12).fmod 3).toNat (DD.map prF)).flatten = D0 at *
    generalize W.map F.str = L at *
    generalize DD.map prF = L2 at *
    (simp (disch := first | omega | assumption | rfl | (simp only [List.length_cons, List.length_nil, List.length_map, List.length_append, len_appS]; omega)) only [evA, evC, Nat.reduceAdd, Nat.reduceSub, Int.reduceLT, Int.reduceLE, Int.reduceNeg, Int.reduceToNat, Int.reducePow, Int.reduceAdd, Int.reduceMul, Int.reduceEq, Int.reduceSub, reduceIte, reduceCtorEq, *])
  clear m2 l5 l5b q5 d1 d2
  obtain ⟨D0, l5, q5, g2⟩ := s0
  obtain ⟨w0, W2, rfl⟩ : ∃ w0 W2, W = w0 :: W2 := by
    cases W with
    | nil => simp at hW
    | cons a b => exact ⟨a, b, rfl⟩
  have hw0 := hWn w0 (by simp)
  have g3 : ∃ D1, D1.length ≤ 32 ∧ (∀ x ∈ D1, ∃ z c, x = F.tup [.str z, .int c] ∧ Pn z ∧ 0 ≤ c ∧ c ≤ 4) ∧ ∀ s, exS (callF T n) (callM T n) T.sub (.ite (.cmp .eq (.bin .mod (.bin .fdiv (.v 0) (.k (.int 36))) (.k (.int 2))) (.k (.int 1))) [.set 6 (.bin (.add false) (.v 6) (.lst false [(.tup [(.k (.str "zy")), (.k (.int 0))]), (.tup [(.idx (.v 1) (.k (.int 0))), (.k (.int 1))])]))] []) [some (.f (.int c)), some (.f (.lst ((w0 :: W2).map F.str))), some (.f (.lst (DD.map prF))), some (.f (.lst nm)), none, none, some (.f (.lst D0))] s = .nx [some (.f (.int c)), some (.f (.lst ((w0 :: W2).map F.str))), some (.f (.lst (DD.map prF))), some (.f (.lst nm)), none, none, some (.f (.lst D1))] s := by
    by_cases h36 : (c.fdiv 36).fmod 2 = 1
    · refine ⟨D0 ++ [.tup [.str (Str.ofString "zy"), .int 0], .tup [.str w0, .int 1]], by rw [List.length_append]; simp; omega, fun x hx => ?_, fun s => ?_⟩
      · rcases List.mem_append.mp hx with hx | hx
        · exact q5 x hx
        · rcases List.mem_cons.mp hx with rfl | hx
          · exact ⟨_, _, rfl, zy_pn, by decide, by decide⟩
          · rw [List.mem_singleton.mp hx]; exact ⟨_, _, rfl, hw0, by decide, by decide⟩
      · have d := decide_eq_true h36
        rw [z_ite]
        have ec : evE (callF T n) (callM T n) (.cmp .eq (.bin .mod (.bin .fdiv (.v 0) (.k (.int 36))) (.k (.int 2))) (.k (.int 1))) [some (.f (.int c)), some (.f (.lst ((w0 :: W2).map F.str))), some (.f (.lst (DD.map prF))), some (.f (.lst nm)), none, none, some (.f (.lst D0))] s = .ok (.f (.bl true)) s := by
          clear hitems q5 l5 hnm hWn hDn g1 g2 h36 hw0 hLl
          generalize (w0 :: W2).map F.str = L at *
          generalize DD.map prF = L2 at *
          (simp (disch := first | omega | assumption | rfl | (simp only [List.length_cons, List.length_nil, List.length_map, List.length_append, len_appS]; omega)) only [evA, evC, Nat.reduceAdd, Nat.reduceSub, Int.reduceLT, Int.reduceLE, Int.reduceNeg, Int.reduceToNat, Int.reducePow, Int.reduceAdd, Int.reduceMul, Int.reduceEq, Int.reduceSub, reduceIte, reduceCtorEq, *])
        rw [ec, R.go_ok]
        refine set_st _ ?_ z_nil
        clear hitems q5 hnm hWn hDn g1 g2 h36 hw0 d ec hLl
        rw [List.map_cons]
        generalize W2.map F.str = L at *
        generalize DD.map prF = L2 at *
        (simp (disch := first | omega | assumption | rfl | (simp only [List.length_cons, List.length_nil, List.length_map, List.length_append, len_appS]; omega)) only [evA, evC, Nat.reduceAdd, Nat.reduceSub, Int.reduceLT, Int.reduceLE, Int.reduceNeg, Int.reduceToNat, Int.reducePow, Int.reduceAdd, Int.reduceMul, Int.reduceEq, Int.reduceSub, reduceIte, reduceCtorEq, *])
    · refine ⟨D0, by omega, q5, fun s => ?_⟩
      have d := decide_eq_false h36
      rw [z_ite]
      have ec : evE (callF T n) (callM T n) (.cmp .eq (.bin .mod (.bin .fdiv (.v 0) (.k (.int 36))) (.k (.int 2))) (.k (.int 1))) [some (.f (.int c)), some (.f (.lst ((w0 :: W2).map F.str))), some (.f (.lst (DD.map prF))), some (.f (.lst nm)), none, none, some (.f (.lst D0))] s = .ok (.f (.bl false)) s := by
        clear hitems q5 l5 hnm hWn hDn g1 g2 h36 hw0 hLl
        generalize (w0 :: W2).map F.str = L at *
        generalize DD.map prF = L2 at *
        (simp (disch := first | omega | assumption | rfl | (simp only [List.length_cons, List.length_nil, List.length_map, List.length_append, len_appS]; omega)) only [evA, evC, Nat.reduceAdd, Nat.reduceSub, Int.reduceLT, Int.reduceLE, Int.reduceNeg, Int.reduceToNat, Int.reducePow, Int.reduceAdd, Int.reduceMul, Int.reduceEq, Int.reduceSub, reduceIte, reduceCtorEq, *])
      rw [ec, R.go_ok]
      exact z_nil
  obtain ⟨D1, l6, q6, g3⟩ := g3
  generalize hWL : (w0 :: W2).map F.str = L at *
  have g4 : ∃ D2, D2.length ≤ 60 ∧ (∀ x ∈ D2, ∃ z c, x = F.tup [.str z, .int c] ∧ Pn z ∧ 0 ≤ c ∧ c ≤ 4) ∧ ∀ s, exS (callF T n) (callM T n) T.sub (.ite (.cmp .eq (.bin .mod (.bin .fdiv (.v 0) (.k (.int 72))) (.k (.int 2))) (.k (.int 1))) [.set 6 (.bin (.add false) (.v 6) (.lc false (.seq (.v 2)) (.tup [4, 5]) none (.tup [(.v 4), (.bin (.add false) (.v 5) (.k (.int 1)))]))), .set 6 (.bin (.add false) (.v 6) (.lc false (.seq (.v 2)) (.tup [4, 5]) (some (.cmp .gt (.v 5) (.k (.int 0)))) (.tup [(.v 4), (.bin .sub (.v 5) (.k (.int 1)))])))] []) [some (.f (.int c)), some (.f (.lst L)), some (.f (.lst (DD.map prF))), some (.f (.lst nm)), none, none, some (.f (.lst D1))] s = .nx [some (.f (.int c)), some (.f (.lst L)), some (.f (.lst (DD.map prF))), some (.f (.lst nm)), none, none, some (.f (.lst D2))] s := by
    by_cases h72 : (c.fdiv 72).fmod 2 = 1
    · have lcA := fun (v : Option D) s => lc_map (call := callF T n) (mk := callM T n) (env := [some (.f (.int c)), some (.f (.lst L)), some (.f (.lst (DD.map prF))), some (.f (.lst nm)), none, none, v]) (s := s) (it := .seq (.v 2)) (p := .tup [4, 5]) (c := none) (e := .tup [(.v 4), (.bin (.add false) (.v 5) (.k (.int 1)))]) (l := DD) (h := fun p => .f (prF p)) (g := fun p => some (.tup [.str p.1, .int (p.2 + 1)])) (hitems _ 2 DD rfl s) (fun p hp => ⟨_, rfl, turn_none (by
          clear hitems g1 g2 g3
          simp only [List.set_cons_succ, List.set_cons_zero, List.zip_cons_cons, List.zip_nil_right, List.foldl_cons, List.foldl_nil, List.map_cons, List.map_nil]
          (simp (disch := first | omega | assumption | rfl | (simp only [List.length_cons, List.length_nil, List.length_map, List.length_append, len_appS]; omega)) only [evA, evC, Nat.reduceAdd, Nat.reduceSub, Int.reduceLT, Int.reduceLE, Int.reduceNeg, Int.reduceToNat, Int.reducePow, Int.reduceAdd, Int.reduceMul, Int.reduceEq, Int.reduceSub, reduceIte, reduceCtorEq]))⟩) (by omega)
      have lcB := fun (v : Option D) s => lc_map (call := callF T n) (mk := callM T n) (env := [some (.f (.int c)), some (.f (.lst L)), some (.f (.lst (DD.map prF))), some (.f (.lst nm)), none, none, v]) (s := s) (it := .seq (.v 2)) (p := .tup [4, 5]) (c := some (.cmp .gt (.v 5) (.k (.int 0)))) (e := .tup [(.v 4), (.bin .sub (.v 5) (.k (.int 1)))]) (l := DD) (h := fun p => .f (prF p)) (g := fun p => if 0 < p.2 then some (.tup [.str p.1, .int (p.2 - 1)]) else none) (hitems _ 2 DD rfl s) (fun p hp => ⟨_, rfl, by
          clear hitems g1 g2 g3
          by_cases q : 0 < p.2
          · rw [if_pos q]
            have d := decide_eq_true q
            exact turn_yes (by clear q; simp only [List.set_cons_succ, List.set_cons_zero, List.zip_cons_cons, List.zip_nil_right, List.foldl_cons, List.foldl_nil, List.map_cons, List.map_nil]; (simp (disch := first | omega | assumption | rfl | (simp only [List.length_cons, List.length_nil, List.length_map, List.length_append, len_appS]; omega)) only [evA, evC, Nat.reduceAdd, Nat.reduceSub, Int.reduceLT, Int.reduceLE, Int.reduceNeg, Int.reduceToNat, Int.reducePow, Int.reduceAdd, Int.reduceMul, Int.reduceEq, Int.reduceSub, reduceIte, reduceCtorEq, *])) (by clear q d; simp only [List.set_cons_succ, List.set_cons_zero, List.zip_cons_cons, List.zip_nil_right, List.foldl_cons, List.foldl_nil, List.map_cons, List.map_nil]; (simp (disch := first | omega | assumption | rfl | (simp only [List.length_cons, List.length_nil, List.length_map, List.length_append, len_appS]; omega)) only [evA, evC, Nat.reduceAdd, Nat.reduceSub, Int.reduceLT, Int.reduceLE, Int.reduceNeg, Int.reduceToNat, Int.reducePow, Int.reduceAdd, Int.reduceMul, Int.reduceEq, Int.reduceSub, reduceIte, reduceCtorEq]))
          · rw [if_neg q]
            have d := decide_eq_false q
            exact turn_no (by clear q; simp only [List.set_cons_succ, List.set_cons_zero, List.zip_cons_cons, List.zip_nil_right, List.foldl_cons, List.foldl_nil, List.map_cons, List.map_nil]; (simp (disch := first | omega | assumption | rfl | (simp only [List.length_cons, List.length_nil, List.length_map, List.length_append, len_appS]; omega)) only [evA, evC, Nat.reduceAdd, Nat.reduceSub, Int.reduceLT, Int.reduceLE, Int.reduceNeg, Int.reduceToNat, Int.reducePow, Int.reduceAdd, Int.reduceMul, Int.reduceEq, Int.reduceSub, reduceIte, reduceCtorEq, *]))⟩) (by omega)
      simp only [fm_some] at lcA
      have u1 : ∀ x ∈ (DD.map fun p => F.tup [.str p.1, .int (p.2 + 1)]), ∃ z c, x = F.tup [.str z, .int c] ∧ Pn z ∧ 0 ≤ c ∧ c ≤ 4 := fun x hx => by
        obtain ⟨p, hp, rfl⟩ := List.mem_map.mp hx
        obtain ⟨v1, v2, v3⟩ := hDn p hp
        exact ⟨_, _, rfl, v1, by omega, by omega⟩
      have u2 : ∀ x ∈ (DD.filterMap fun p => if 0 < p.2 then some (F.tup [.str p.1, .int (p.2 - 1)]) else none), ∃ z c, x = F.tup [.str z, .int c] ∧ Pn z ∧ 0 ≤ c ∧ c ≤ 4 := fun x hx => by
        obtain ⟨p, hp, e⟩ := List.mem_filterMap.mp hx
        obtain ⟨v1, v2, v3⟩ := hDn p hp
        split at e
        · cases e
          exact ⟨_, _, rfl, v1, by omega, by omega⟩
        · cases e
      have v1 : (DD.map fun p => F.tup [.str p.1, .int (p.2 + 1)]).length ≤ 10 := by rw [List.length_map]; exact hD
      have v2 : (DD.filterMap fun p => if 0 < p.2 then some (F.tup [.str p.1, .int (p.2 - 1)]) else none).length ≤ 10 := Nat.le_trans (List.length_filterMap_le _ _) hD
      generalize (DD.map fun p => F.tup [.str p.1, .int (p.2 + 1)]) = X1 at *
      generalize (DD.filterMap fun p => if 0 < p.2 then some (F.tup [.str p.1, .int (p.2 - 1)]) else none) = X2 at *
      refine ⟨D1 ++ X1 ++ X2, by rw [List.length_append, List.length_append]; omega, fun x hx => ?_, fun s => ?_⟩
      · rcases List.mem_append.mp hx with hx | hx
        · rcases List.mem_append.mp hx with hx | hx
          · exact q6 x hx
          · exact u1 x hx
        · exact u2 x hx
      · have d := decide_eq_true h72
        have lcA := lcA (some (.f (.lst D1))) s
        have lcB := lcB (some (.f (.lst (D1 ++ X1)))) s
        rw [z_ite]
        have ec : evE (callF T n) (callM T n) (.cmp .eq (.bin .mod (.bin .fdiv (.v 0) (.k (.int 72))) (.k (.int 2))) (.k (.int 1))) [some (.f (.int c)), some (.f (.lst L)), some (.f (.lst (DD.map prF))), some (.f (.lst nm)), none, none, some (.f (.lst D1))] s = .ok (.f (.bl true)) s := by
          clear hitems q5 q6 l5 hnm hWn hDn g1 g2 g3 h72 hw0 lcA lcB u1 u2
          generalize DD.map prF = L2 at *
          (simp (disch := first | omega | assumption | rfl | (simp only [List.length_cons, List.length_nil, List.length_map, List.length_append, len_appS]; omega)) only [evA, evC, Nat.reduceAdd, Nat.reduceSub, Int.reduceLT, Int.reduceLE, Int.reduceNeg, Int.reduceToNat, Int.reducePow, Int.reduceAdd, Int.reduceMul, Int.reduceEq, Int.reduceSub, reduceIte, reduceCtorEq, *])
        rw [ec, R.go_ok]
        clear hitems q5 q6 hnm hWn hDn g1 g2 g3 h72 hw0 d ec u1 u2
        generalize DD.map prF = L2 at *
        generalize E.lc _ _ _ none _ = e0 at lcA ⊢
        generalize E.lc _ _ _ (some _) _ = e1 at lcB ⊢
        refine set_st (.f (.lst (D1 ++ X1))) (by clear lcB; (simp (disch := first | omega | assumption | rfl | (simp only [List.length_cons, List.length_nil, List.length_map, List.length_append, len_appS]; omega)) only [evA, evC, Nat.reduceAdd, Nat.reduceSub, Int.reduceLT, Int.reduceLE, Int.reduceNeg, Int.reduceToNat, Int.reducePow, Int.reduceAdd, Int.reduceMul, Int.reduceEq, Int.reduceSub, reduceIte, reduceCtorEq, *])) (set_st (.f (.lst (D1 ++ X1 ++ X2))) (by clear lcA; (simp (disch := first | omega | assumption | rfl | (simp only [List.length_cons, List.length_nil, List.length_map, List.length_append, len_appS]; omega)) only [evA, evC, Nat.reduceAdd, Nat.reduceSub, Int.reduceLT, Int.reduceLE, Int.reduceNeg, Int.reduceToNat, Int.reducePow, Int.reduceAdd, Int.reduceMul, Int.reduceEq, Int.reduceSub, reduceIte, reduceCtorEq, *])) z_nil)
    · refine ⟨D1, by omega, q6, fun s => ?_⟩
      have d := decide_eq_false h72
      rw [z_ite]
      have ec : evE (callF T n) (callM T n) (.cmp .eq (.bin .mod (.bin .fdiv (.v 0) (.k (.int 72))) (.k (.int 2))) (.k (.int 1))) [some (.f (.int c)), some (.f (.lst L)), some (.f (.lst (DD.map prF))), some (.f (.lst nm)), none, none, some (.f (.lst D1))] s = .ok (.f (.bl false)) s := by
        clear hitems q5 q6 l5 hnm hWn hDn g1 g2 g3 h72 hw0
        generalize DD.map prF = L2 at *
        (simp (disch := first | omega | assumption | rfl | (simp only [List.length_cons, List.length_nil, List.length_map, List.length_append, len_appS]; omega)) only [evA, evC, Nat.reduceAdd, Nat.reduceSub, Int.reduceLT, Int.reduceLE, Int.reduceNeg, Int.reduceToNat, Int.reducePow, Int.reduceAdd, Int.reduceMul, Int.reduceEq, Int.reduceSub, reduceIte, reduceCtorEq, *])
      rw [ec, R.go_ok]
      exact z_nil
  obtain ⟨D2, l7, q7, g4⟩ := g4
  -- plain ones
  have hD2 : ∃ E2 : List (Str × Int), D2 = E2.map prF ∧ ∀ p ∈ E2, Pn p.1 := by
    clear g4 l7
    induction D2 with
    | nil => exact ⟨[], rfl, by simp⟩
    | cons x D2 ih =>
      obtain ⟨E2, rfl, hE⟩ := ih fun y hy => q7 y (List.mem_cons_of_mem _ hy)
      obtain ⟨z, k, rfl, hz, _⟩ := q7 x (List.mem_cons_self ..)
      exact ⟨(z, k) :: E2, rfl, fun p hp => by
        rcases List.mem_cons.mp hp with rfl | hp
        · exact hz
        · exact hE p hp⟩
  obtain ⟨E2, rfl, hE⟩ := hD2
  rw [List.length_map] at l7
  have lcP := fun s => lc_map (call := callF T n) (mk := callM T n) (env := [some (.f (.int c)), some (.f (.lst L)), some (.f (.lst (DD.map prF))), some (.f (.lst nm)), none, none, some (.f (.lst (E2.map prF)))]) (s := s) (it := .seq (.v 6)) (p := .tup [4, 5]) (c := some (.cmp .lt (.v 5) (.bin (.add false) (.k (.int 1)) (.bin .mod (.bin .fdiv (.v 0) (.k (.int 144))) (.k (.int 2)))))) (e := .v 4) (l := E2) (h := fun p => .f (prF p)) (g := fun p => if p.2 < 1 + (c.fdiv 144).fmod 2 then some (.str p.1) else none) (hitems _ 6 E2 rfl s) (fun p hp => ⟨_, rfl, by
    clear hitems g1 g2 g3 g4
    generalize E2.map prF = L4
    by_cases q : p.2 < 1 + (c.fdiv 144).fmod 2
    · rw [if_pos q]
      have d := decide_eq_true q
      exact turn_yes (by clear q; simp only [List.set_cons_succ, List.set_cons_zero, List.zip_cons_cons, List.zip_nil_right, List.foldl_cons, List.foldl_nil, List.map_cons, List.map_nil]; (simp (disch := first | omega | assumption | rfl | (simp only [List.length_cons, List.length_nil, List.length_map, List.length_append, len_appS]; omega)) only [evA, evC, Nat.reduceAdd, Nat.reduceSub, Int.reduceLT, Int.reduceLE, Int.reduceNeg, Int.reduceToNat, Int.reducePow, Int.reduceAdd, Int.reduceMul, Int.reduceEq, Int.reduceSub, reduceIte, reduceCtorEq, *])) rfl
    · rw [if_neg q]
      have d := decide_eq_false q
      exact turn_no (by clear q; simp only [List.set_cons_succ, List.set_cons_zero, List.zip_cons_cons, List.zip_nil_right, List.foldl_cons, List.foldl_nil, List.map_cons, List.map_nil]; (simp (disch := first | omega | assumption | rfl | (simp only [List.length_cons, List.length_nil, List.length_map, List.length_append, len_appS]; omega)) only [evA, evC, Nat.reduceAdd, Nat.reduceSub, Int.reduceLT, Int.reduceLE, Int.reduceNeg, Int.reduceToNat, Int.reducePow, Int.reduceAdd, Int.reduceMul, Int.reduceEq, Int.reduceSub, reduceIte, reduceCtorEq, *]))⟩) (by omega)
  have hpl : Pln (E2.filterMap fun p => if p.2 < 1 + (c.fdiv 144).fmod 2 then some (F.str p.1) else none) := ⟨Nat.le_trans (List.length_filterMap_le _ _) (by omega), fun x hx => by
    obtain ⟨p, hp, e⟩ := List.mem_filterMap.mp hx
    split at e
    · cases e; exact ⟨p.1, rfl, hE p hp⟩
    · cases e⟩
  generalize (E2.filterMap fun p => if p.2 < 1 + (c.fdiv 144).fmod 2 then some (F.str p.1) else none) = pl at *
  refine ⟨nm, E2.map prF, pl, hnm, ⟨by rw [List.length_map]; omega, q7⟩, hpl, fun s => ?_⟩
  rw [call_eq (F := F__law_mess) rfl rfl]
  have key : exSs (callF T n) (callM T n) T.sub B__law_mess [some (.f (.int c)), some (.f (.lst L)), some (.f (.lst (DD.map prF))), none, none, none, none] s = .rt (.f (.tup [.lst nm, .lst (E2.map prF), .lst pl])) s := by
    refine set_st (.f (.lst nm)) (g1 s) (set_st (.f (.lst D0)) (g2 s) (run_st _ _ (g3 s) (run_st _ _ (g4 s) (ret_go ?_))))
    have lcP := lcP s
    clear g1 g2 g3 g4 hitems q5 q6 q7 hpl hnm hE hDn hWn
    generalize E2.map prF = L3 at *
    generalize DD.map prF = L2 at *
    generalize E.lc _ _ _ _ _ = e0 at lcP ⊢
    (simp (disch := first | omega | assumption | rfl | (simp only [List.length_cons, List.length_nil, List.length_map, List.length_append, len_appS]; omega)) only [evA, evC, Nat.reduceAdd, Nat.reduceSub, Int.reduceLT, Int.reduceLE, Int.reduceNeg, Int.reduceToNat, Int.reducePow, Int.reduceAdd, Int.reduceMul, Int.reduceEq, Int.reduceSub, reduceIte, reduceCtorEq, *])
  show (exSs (callF T n) (callM T n) T.sub B__law_mess [some (.f (.int c)), some (.f (.lst L)), some (.f (.lst (DD.map prF))), none, none, none, none] s).res = _
  rw [key]; rfl


end K11

namespace K11
open PySem JM L2
/-! ### deeds that are built -/
theorem nameS_pl (c k : Int) : Pl (.str (nameS c k)) = true := by
  have hl := nameS_len c k
  simp only [Pl, Bool.and_eq_true, decide_eq_true_eq, List.all_eq_true]
  exact ⟨fun d hd => by have := nameS_low c k d hd; omega, by omega⟩
/-- texts that are names -/
theorem kept_end : ∀ w ∈ kept, 2 ≤ w.length ∧ w.cps.toList.getLast? ≠ some 122 := by decide +kernel
theorem let_in {c : Nat} (h : 97 ≤ c ∧ c ≤ 122) : c ∈ lets.cps.toList := by
  have := lets_get ⟨c - 97, by omega⟩
  have e : 97 + (c - 97) = c := by omega
  simp only [e] at this
  exact List.mem_of_getElem? this
theorem nameS_nz (c k : Int) : nameZ (nameS c k) = true := by
  have hl := nameS_len c k
  have h1 : nameS c k ∉ kept := fun hk => by
    obtain ⟨k1, k2⟩ := kept_end _ hk
    by_cases h7 : 0 < c.fmod 7
    · apply k2
      rw [nameS, mkS_cps, nameL, if_pos h7]
      simp
    · have : (nameS c k).length = 1 := by
        have := fm_lo c 7 (by decide)
        have e : c.fmod 7 = 0 := by omega
        rw [nameS, mkS_len, nameL, if_neg h7, List.append_nil, List.length_append, stemL_len, e]
        rfl
      omega
  simp only [nameZ, Bool.and_eq_true, Bool.not_eq_true', decide_eq_false_iff_not]
  refine ⟨⟨⟨by omega, by omega⟩, h1⟩, ?_⟩
  unfold lowB
  rw [List.all_eq_true]
  intro d hd
  exact decide_eq_true (let_in (nameS_low c k d hd))
theorem nameS_pn (c k : Int) : Pn (nameS c k) := ⟨nameS_pl c k, nameS_nz c k⟩
theorem nameS_inj {c a b : Int} (h : nameS c a = nameS c b) : a.fmod 26 = b.fmod 26 := by
  have h1 := fm_lo a 26 (by decide)
  have h2 := fm_lo b 26 (by decide)
  rw [nameS, nameS, mkS_inj, nameL, nameL] at h
  have h3 := List.append_cancel_right h
  have h4 := List.append_cancel_left h3
  simp only [List.cons.injEq, and_true] at h4
  omega


end K11

namespace K11
open PySem JM L2
/-! ### the law's unit -/
theorem names_nd (c : Int) {l : List Int} (h : (l.map fun a => a.fmod 26).Nodup) : (l.map (nameS c)).Nodup := by
  induction l with
  | nil => simp
  | cons a l ih =>
    rw [List.map_cons, List.nodup_cons] at h ⊢
    refine ⟨fun hm => h.1 ?_, ih h.2⟩
    obtain ⟨b, hb, e⟩ := List.mem_map.mp hm
    exact List.mem_map.mpr ⟨b, hb, nameS_inj e⟩
theorem o_deedby {n : Nat} (h : 20 ≤ n) (c st : Int) (k : Nat) (ws : List Str) (DD : List (Str × Int)) (hk : k < DD.length) (hW : 0 < ws.length ∧ ws.length ≤ 10) (hWn : ∀ z ∈ ws, Pn z) (hD : DD.length ≤ 10) (hDn : ∀ p ∈ DD, Pn p.1 ∧ 0 ≤ p.2 ∧ p.2 ≤ 3) :
    ∃ d : Dd, hdOf d = DD[k] ∧ (d.ps ++ d.os).length ≤ 10 ∧ (∃ nm dd pl, Nms nm ∧ Dds dd ∧ Pln pl ∧ ∀ x ∈ d.bs, Sm nm dd pl 2 x) ∧ d.bs.length ≤ 20 ∧ ∀ s, callF T n i__law_deed_by [.f (.int c), .f (.int st), .f (.int (k : Nat)), .f (.lst (ws.map F.str)), .f (.lst (DD.map prF))] s = .ok (.f d.val) s := by
  obtain ⟨n, rfl⟩ : ∃ m, n = m + 1 := ⟨n - 1, by omega⟩
  have u1 := fm_lo (c.fdiv 4) 4 (by decide)
  have u2 := fm_hi (c.fdiv 4) 4 (by decide)
  have x1 := fm_lo c 4 (by decide)
  have x2 := fm_hi c 4 (by decide)
  obtain ⟨y1, y2, y3⟩ := hDn _ (List.getElem_mem hk)
  have hat : atI (DD.map prF) (k : Nat) = some (prF DD[k]) := by
    rw [atI_get _ _ (by omega) (by rw [List.length_map]; omega), Int.toNat_natCast, List.getElem?_map, List.getElem?_eq_getElem hk]; rfl
  generalize hpk : DD[k] = p at *
  obtain ⟨z, m⟩ := p
  simp only at y1 y2 y3
  obtain ⟨m, rfl⟩ : ∃ j : Nat, m = (j : Int) := ⟨m.toNat, by omega⟩
  replace hat : atI (DD.map prF) (k : Nat) = some (.tup [.str z, .int (m : Nat)]) := hat
  -- params
  have lc1 := fun s => lc_map (call := callF T n) (mk := callM T n) (env := [some (.f (.int c)), some (.f (.int st)), some (.f (.int (k : Nat))), some (.f (.lst (ws.map F.str))), some (.f (.lst (DD.map prF))), none, none, none, none, none, none, none]) (s := s) (it := .rng1 (.idx (.idx (.v 4) (.v 2)) (.k (.int 1)))) (p := .one 6) (c := none) (e := .call i__law_name [(.v 1), (.bin (.add false) (.k (.int 16)) (.v 6))])
    (l := List.range m) (h := fun (j : Nat) => .f (.int (0 + (j : Nat)))) (g := fun (j : Nat) => some (.str (nameS st (16 + (j : Nat))))) (by
      have ee : evE (callF T n) (callM T n) (.idx (.idx (.v 4) (.v 2)) (.k (.int 1))) [some (.f (.int c)), some (.f (.int st)), some (.f (.int (k : Nat))), some (.f (.lst (ws.map F.str))), some (.f (.lst (DD.map prF))), none, none, none, none, none, none, none] s = .ok (.f (.int (m : Nat))) s := by
        clear hWn hDn
        generalize ws.map F.str = L at *
        generalize DD.map prF = L2 at *
        (simp (disch := first | omega | assumption | rfl | (simp only [List.length_cons, List.length_nil, List.length_map, List.length_append, len_appS]; omega)) only [evA, evC, Nat.reduceAdd, Nat.reduceSub, Int.reduceLT, Int.reduceLE, Int.reduceNeg, Int.reduceToNat, Int.reducePow, Int.reduceAdd, Int.reduceMul, Int.reduceEq, Int.reduceSub, reduceIte, reduceCtorEq, *])
      have := y_rngN ee (inR (by omega))
      rw [Int.toNat_natCast] at this
      exact this)
    (fun j hj => ⟨_, rfl, by
      have q := fun s => o_name (n := n) (by omega) st (16 + (j : Nat)) s
      refine turn_none ?_
      simp only [Int.zero_add]
      clear hWn hDn hat
      generalize ws.map F.str = L at *
      generalize DD.map prF = L2 at *
      (simp (disch := first | omega | assumption | rfl | (simp only [List.length_cons, List.length_nil, List.length_map, List.length_append, len_appS]; omega)) only [evA, evC, Nat.reduceAdd, Nat.reduceSub, Int.reduceLT, Int.reduceLE, Int.reduceNeg, Int.reduceToNat, Int.reducePow, Int.reduceAdd, Int.reduceMul, Int.reduceEq, Int.reduceSub, reduceIte, reduceCtorEq, *])⟩) (by rw [List.length_range]; omega)
  simp only [fm_some] at lc1
  have ep : ((List.range m).map fun (j : Nat) => F.str (nameS st (16 + (j : Nat)))) = ((List.range m).map fun (j : Nat) => nameS st (16 + (j : Nat))).map F.str := by rw [List.map_map]; rfl
  rw [ep] at lc1
  have lp : ((List.range m).map fun (j : Nat) => nameS st (16 + (j : Nat))).length = m := by rw [List.length_map, List.length_range]
  have hp : ∀ z ∈ ((List.range m).map fun (j : Nat) => nameS st (16 + (j : Nat))), Pn z := fun z hz => by
    obtain ⟨j, _, rfl⟩ := List.mem_map.mp hz
    exact nameS_pn _ _
  generalize ((List.range m).map fun (j : Nat) => nameS st (16 + (j : Nat))) = ps at *
  clear ep
  -- owns
  obtain ⟨o, ho⟩ : ∃ o : Int, ∀ s, evE (callF T n) (callM T n) (.idx (.lst false [(.k (.int 20)), (.k (.int 0)), (.k (.int 12)), (.k (.int 21))]) (.bin .mod (.bin .fdiv (.v 0) (.k (.int 4))) (.k (.int 4)))) [some (.f (.int c)), some (.f (.int st)), some (.f (.int (k : Nat))), some (.f (.lst (ws.map F.str))), some (.f (.lst (DD.map prF))), some (.f (.lst (ps.map F.str))), none, none, none, none, none, none] s = .ok (.f (.int o)) s := by
    clear hWn hDn hat lc1 hp
    generalize ws.map F.str = L at *
    generalize DD.map prF = L2 at *
    generalize ps.map F.str = L3 at *
    rcases (show (c.fdiv 4).fmod 4 = 0 ∨ (c.fdiv 4).fmod 4 = 1 ∨ (c.fdiv 4).fmod 4 = 2 ∨ (c.fdiv 4).fmod 4 = 3 by omega) with q | q | q | q
    · exact ⟨20, fun s => by clear u1 u2 x1 x2; (simp (disch := first | omega | assumption | rfl | (simp only [List.length_cons, List.length_nil, List.length_map, List.length_append, len_appS]; omega)) only [evA, evC, Nat.reduceAdd, Nat.reduceSub, Int.reduceLT, Int.reduceLE, Int.reduceNeg, Int.reduceToNat, Int.reducePow, Int.reduceAdd, Int.reduceMul, Int.reduceEq, Int.reduceSub, reduceIte, reduceCtorEq, *])⟩
    · exact ⟨0, fun s => by clear u1 u2 x1 x2; (simp (disch := first | omega | assumption | rfl | (simp only [List.length_cons, List.length_nil, List.length_map, List.length_append, len_appS]; omega)) only [evA, evC, Nat.reduceAdd, Nat.reduceSub, Int.reduceLT, Int.reduceLE, Int.reduceNeg, Int.reduceToNat, Int.reducePow, Int.reduceAdd, Int.reduceMul, Int.reduceEq, Int.reduceSub, reduceIte, reduceCtorEq, *])⟩
    · exact ⟨12, fun s => by clear u1 u2 x1 x2; (simp (disch := first | omega | assumption | rfl | (simp only [List.length_cons, List.length_nil, List.length_map, List.length_append, len_appS]; omega)) only [evA, evC, Nat.reduceAdd, Nat.reduceSub, Int.reduceLT, Int.reduceLE, Int.reduceNeg, Int.reduceToNat, Int.reducePow, Int.reduceAdd, Int.reduceMul, Int.reduceEq, Int.reduceSub, reduceIte, reduceCtorEq, *])⟩
    · exact ⟨21, fun s => by clear u1 u2 x1 x2; (simp (disch := first | omega | assumption | rfl | (simp only [List.length_cons, List.length_nil, List.length_map, List.length_append, len_appS]; omega)) only [evA, evC, Nat.reduceAdd, Nat.reduceSub, Int.reduceLT, Int.reduceLE, Int.reduceNeg, Int.reduceToNat, Int.reducePow, Int.reduceAdd, Int.reduceMul, Int.reduceEq, Int.reduceSub, reduceIte, reduceCtorEq, *])⟩
  have hn := fun s => o_name (n := n) (by omega) st o s
  have hon := nameS_pn st o
  generalize nameS st o = w at *
  obtain ⟨nm, dd, pl, hN, hDd, hP, hms⟩ := o_mess (n := n) (by omega) (c.fdiv 16) (ws ++ ps ++ [w]) DD (by simp only [List.length_append, List.length_cons, List.length_nil]; omega) (fun z hz => by
    rcases List.mem_append.mp hz with hz | hz
    · rcases List.mem_append.mp hz with hz | hz
      · exact hWn z hz
      · exact hp z hz
    · rw [List.mem_singleton.mp hz]; exact hon) hD hDn
  have hdr := fun s => o_drawn (n := n) (by omega) c 1 (by omega) s
  obtain ⟨bs, lbs, hbs, hbc⟩ := o_block nm dd pl hN hDd hP 2 (n := n) (by omega) (drw c 1) (c.fmod 4) (by omega)
  refine ⟨⟨z, ps, [w], bs⟩, by simp only [hdOf, lp], by simp only [List.length_append, List.length_cons, List.length_nil]; omega, ⟨nm, dd, pl, hN, hDd, hP, hbs⟩, by show bs.length ≤ 20; omega, fun s => ?_⟩
  rw [call_eq (F := F__law_deed_by) rfl rfl]
  have e3 : (ws ++ ps ++ [w]).map F.str = ws.map F.str ++ ps.map F.str ++ [F.str w] := by rw [List.map_append, List.map_append]; rfl
  rw [e3] at hms
  have l1 : (ws.map F.str).length ≤ 10 := by rw [List.length_map]; omega
  have l2 : (ps.map F.str).length ≤ 10 := by rw [List.length_map]; omega
  have lc1 := lc1 s
  have e2 : ((2 : Nat) : Int) = 2 := rfl
  rw [e2] at hbc
  have key : exSs (callF T n) (callM T n) T.sub B__law_deed_by [some (.f (.int c)), some (.f (.int st)), some (.f (.int (k : Nat))), some (.f (.lst (ws.map F.str))), some (.f (.lst (DD.map prF))), none, none, none, none, none, none, none] s = .rt (.f (Dd.val ⟨z, ps, [w], bs⟩)) s := by
    clear hWn hDn hp hN hDd hP hbs e3 hpk
    unfold Dd.val
    simp only [List.map_cons, List.map_nil]
    generalize ws.map F.str = L at *
    generalize DD.map prF = L2 at *
    generalize ps.map F.str = L3 at *
    refine set_st (.f (.lst L3)) lc1 (set_st (.f (.lst [.str w])) ?_ ?_)
    · have ho := ho s
      clear lc1 hms hbc hdr
      generalize E.idx _ (.bin .mod _ _) = e0 at ho ⊢
      (simp (disch := first | omega | assumption | rfl | (simp only [List.length_cons, List.length_nil, List.length_map, List.length_append, len_appS]; omega)) only [evA, evC, Nat.reduceAdd, Nat.reduceSub, Int.reduceLT, Int.reduceLE, Int.reduceNeg, Int.reduceToNat, Int.reducePow, Int.reduceAdd, Int.reduceMul, Int.reduceEq, Int.reduceSub, reduceIte, reduceCtorEq, *])
    · clear lc1 ho hn
      refine run_st [some (.f (.int c)), some (.f (.int st)), some (.f (.int (k : Nat))), some (.f (.lst L)), some (.f (.lst L2)), some (.f (.lst L3)), none, some (.f (.lst [.str w])), some (.f (.lst nm)), some (.f (.lst dd)), some (.f (.lst pl)), none] s ?_ (set_st (.f (.tup bs)) ?_ (ret_go ?_))
      · have ee : evE (callF T n) (callM T n) (.call i__law_mess [(.bin .fdiv (.v 0) (.k (.int 16))), (.bin (.add false) (.bin (.add false) (.v 3) (.v 5)) (.v 7)), (.v 4)]) [some (.f (.int c)), some (.f (.int st)), some (.f (.int (k : Nat))), some (.f (.lst L)), some (.f (.lst L2)), some (.f (.lst L3)), none, some (.f (.lst [.str w])), none, none, none, none] s = .ok (.f (.tup [.lst nm, .lst dd, .lst pl])) s := by
          clear hbc hdr hat
          (simp (disch := first | omega | assumption | rfl | (simp only [List.length_cons, List.length_nil, List.length_map, List.length_append, len_appS]; omega)) only [evA, evC, Nat.reduceAdd, Nat.reduceSub, Int.reduceLT, Int.reduceLE, Int.reduceNeg, Int.reduceToNat, Int.reducePow, Int.reduceAdd, Int.reduceMul, Int.reduceEq, Int.reduceSub, reduceIte, reduceCtorEq, *])
        show exS (callF T n) (callM T n) T.sub (.unp [8, 9, 10] (.call i__law_mess [(.bin .fdiv (.v 0) (.k (.int 16))), (.bin (.add false) (.bin (.add false) (.v 3) (.v 5)) (.v 7)), (.v 4)])) [some (.f (.int c)), some (.f (.int st)), some (.f (.int (k : Nat))), some (.f (.lst L)), some (.f (.lst L2)), some (.f (.lst L3)), none, some (.f (.lst [.str w])), none, none, none, none] s = _
        rw [z_unp, ee]
        rfl
      · clear hms hat
        (simp (disch := first | omega | assumption | rfl | (simp only [List.length_cons, List.length_nil, List.length_map, List.length_append, len_appS]; omega)) only [evA, evC, Nat.reduceAdd, Nat.reduceSub, Int.reduceLT, Int.reduceLE, Int.reduceNeg, Int.reduceToNat, Int.reducePow, Int.reduceAdd, Int.reduceMul, Int.reduceEq, Int.reduceSub, reduceIte, reduceCtorEq, *])
      · clear hms hbc hdr
        (simp (disch := first | omega | assumption | rfl | (simp only [List.length_cons, List.length_nil, List.length_map, List.length_append, len_appS]; omega)) only [evA, evC, Nat.reduceAdd, Nat.reduceSub, Int.reduceLT, Int.reduceLE, Int.reduceNeg, Int.reduceToNat, Int.reducePow, Int.reduceAdd, Int.reduceMul, Int.reduceEq, Int.reduceSub, reduceIte, reduceCtorEq, *])
  show (exSs (callF T n) (callM T n) T.sub B__law_deed_by [some (.f (.int c)), some (.f (.int st)), some (.f (.int (k : Nat))), some (.f (.lst (ws.map F.str))), some (.f (.lst (DD.map prF))), none, none, none, none, none, none, none] s).res = _
  rw [key]; rfl
theorem all_nd : ∀ (c : Fin 7) (k : Fin 6), ((((List.range c.1).map fun (j : Nat) => (0 + (j : Int))) ++ ((List.range k.1).map fun (j : Nat) => (10 + (j : Int)))).map fun a => a.fmod 26).Nodup := by decide +kernel
theorem filt_tup (zs : List Str) (DD : List (Str × Int)) : (DD.filterMap fun p => if p.1 ∈ zs then none else some (prF p)) = (DD.filter fun p => decide (p.1 ∉ zs)).map prF := by
  induction DD with
  | nil => rfl
  | cons p DD ih =>
    rw [List.filterMap_cons, List.filter_cons]
    by_cases h : p.1 ∈ zs
    · rw [if_pos h, decide_eq_false fun q => q h, if_neg (by decide), ih]
    · rw [if_neg h, decide_eq_true h, if_pos rfl, ih]; rfl
def lev : Nat := 200
theorem o_law (ns : List Int) (hl : ns.length ≤ 63) : ∃ s, callF T (lev + 1) i_law [.f (.scr ns)] [] = .ok (.f (.bl true)) s := by
  have hn : 200 ≤ lev := by decide
  generalize lev = n at *
  have m0 := fun s => o_mix (n := n) (by omega) ns 0 (by decide) s
  have m1 := fun s => o_mix (n := n) (by omega) ns 1 (by decide) s
  have m6 := fun s => o_mix (n := n) (by omega) ns 6 (by decide) s
  generalize hst : mx ns 0 = st at *
  generalize hc1 : mx ns 1 = c1 at *
  generalize hc6 : mx ns 6 = c6 at *
  have a1 := fm_lo c1 6 (by decide)
  have a2 := fm_hi c1 6 (by decide)
  have b1 := fm_lo (c1.fdiv 6) 5 (by decide)
  have b2 := fm_hi (c1.fdiv 6) 5 (by decide)
  obtain ⟨kw, hkw⟩ : ∃ j : Nat, 1 + c1.fmod 6 = (j : Int) := ⟨(1 + c1.fmod 6).toNat, by omega⟩
  obtain ⟨kd, hkd⟩ : ∃ j : Nat, (c1.fdiv 6).fmod 5 = (j : Int) := ⟨((c1.fdiv 6).fmod 5).toNat, by omega⟩
  -- words
  have lcW := fun s => lc_map (call := callF T n) (mk := callM T n) (env := [some (.f (.scr ns)), some (.f (.int st)), none, none, none, none, none, none, none, none, none, none, none, none, none, none]) (s := s) (it := .rng1 (.bin (.add false) (.k (.int 1)) (.bin .mod (.call i__law_mixed [(.v 0), (.k (.int 1))]) (.k (.int 6))))) (p := .one 3) (c := none) (e := .call i__law_name [(.v 1), (.v 3)])
    (l := List.range kw) (h := fun (j : Nat) => .f (.int (0 + (j : Nat)))) (g := fun (j : Nat) => some (.str (nameS st (0 + (j : Nat))))) (by
      have ee : evE (callF T n) (callM T n) (.bin (.add false) (.k (.int 1)) (.bin .mod (.call i__law_mixed [(.v 0), (.k (.int 1))]) (.k (.int 6)))) [some (.f (.scr ns)), some (.f (.int st)), none, none, none, none, none, none, none, none, none, none, none, none, none, none] s = .ok (.f (.int (kw : Nat))) s := by
        clear m0 m6; (simp (disch := first | omega | assumption | rfl | (simp only [List.length_cons, List.length_nil, List.length_map, List.length_append, len_appS]; omega)) only [evA, evC, Nat.reduceAdd, Nat.reduceSub, Int.reduceLT, Int.reduceLE, Int.reduceNeg, Int.reduceToNat, Int.reducePow, Int.reduceAdd, Int.reduceMul, Int.reduceEq, Int.reduceSub, reduceIte, reduceCtorEq, *])
      have := y_rngN ee (inR (by omega))
      rw [Int.toNat_natCast] at this
      exact this)
    (fun j hj => ⟨_, rfl, by
      have q := fun s => o_name (n := n) (by omega) st (0 + (j : Nat)) s
      refine turn_none ?_
      clear m0 m1 m6
      (simp (disch := first | omega | assumption | rfl | (simp only [List.length_cons, List.length_nil, List.length_map, List.length_append, len_appS]; omega)) only [evA, evC, Nat.reduceAdd, Nat.reduceSub, Int.reduceLT, Int.reduceLE, Int.reduceNeg, Int.reduceToNat, Int.reducePow, Int.reduceAdd, Int.reduceMul, Int.reduceEq, Int.reduceSub, reduceIte, reduceCtorEq, *])⟩) (by rw [List.length_range]; omega)
  simp only [fm_some] at lcW
  have eW : ((List.range kw).map fun (j : Nat) => F.str (nameS st (0 + (j : Nat)))) = ((List.range kw).map fun (j : Nat) => nameS st (0 + (j : Nat))).map F.str := by rw [List.map_map]; rfl
  rw [eW] at lcW
  -- deeds' heads
  have lcD := fun (v : Option D) s => lc_map (call := callF T n) (mk := callM T n) (env := [some (.f (.scr ns)), some (.f (.int st)), v, none, none, none, none, none, none, none, none, none, none, none, none, none]) (s := s) (it := .rng1 (.bin .mod (.bin .fdiv (.call i__law_mixed [(.v 0), (.k (.int 1))]) (.k (.int 6))) (.k (.int 5)))) (p := .one 3) (c := none) (e := .tup [(.call i__law_name [(.v 1), (.bin (.add false) (.k (.int 10)) (.v 3))]), (.bin .mod (.call i__law_mixed [(.v 0), (.bin (.add false) (.k (.int 2)) (.v 3))]) (.k (.int 4)))])
    (l := List.range kd) (h := fun (j : Nat) => .f (.int (0 + (j : Nat)))) (g := fun (j : Nat) => some (prF (nameS st (10 + (j : Nat)), (mx ns (2 + (j : Nat))).fmod 4))) (by
      have ee : evE (callF T n) (callM T n) (.bin .mod (.bin .fdiv (.call i__law_mixed [(.v 0), (.k (.int 1))]) (.k (.int 6))) (.k (.int 5))) [some (.f (.scr ns)), some (.f (.int st)), v, none, none, none, none, none, none, none, none, none, none, none, none, none] s = .ok (.f (.int (kd : Nat))) s := by
        clear m0 m6 lcW; (simp (disch := first | omega | assumption | rfl | (simp only [List.length_cons, List.length_nil, List.length_map, List.length_append, len_appS]; omega)) only [evA, evC, Nat.reduceAdd, Nat.reduceSub, Int.reduceLT, Int.reduceLE, Int.reduceNeg, Int.reduceToNat, Int.reducePow, Int.reduceAdd, Int.reduceMul, Int.reduceEq, Int.reduceSub, reduceIte, reduceCtorEq, *])
      have := y_rngN ee (inR (by omega))
      rw [Int.toNat_natCast] at this
      exact this)
    (fun j hj => ⟨_, rfl, by
      have hj' := List.mem_range.mp hj
      have q := fun s => o_name (n := n) (by omega) st (10 + (j : Nat)) s
      have q2 := fun s => o_mix (n := n) (by omega) ns (2 + (j : Nat)) (by omega) s
      refine turn_none ?_
      unfold prF
      simp only [Int.zero_add]
      clear m0 m1 m6 lcW hkw hkd
      generalize mx ns (2 + (j : Nat)) = x at *
      (simp (disch := first | omega | assumption | rfl | (simp only [List.length_cons, List.length_nil, List.length_map, List.length_append, len_appS]; omega)) only [evA, evC, Nat.reduceAdd, Nat.reduceSub, Int.reduceLT, Int.reduceLE, Int.reduceNeg, Int.reduceToNat, Int.reducePow, Int.reduceAdd, Int.reduceMul, Int.reduceEq, Int.reduceSub, reduceIte, reduceCtorEq, *])⟩) (by rw [List.length_range]; omega)
  simp only [fm_some] at lcD
  have eD : ((List.range kd).map fun (j : Nat) => prF (nameS st (10 + (j : Nat)), (mx ns (2 + (j : Nat))).fmod 4)) = ((List.range kd).map fun (j : Nat) => (nameS st (10 + (j : Nat)), (mx ns (2 + (j : Nat))).fmod 4)).map prF := by rw [List.map_map]; rfl
  rw [eD] at lcD
  have hnd := names_nd st (all_nd ⟨kw, by omega⟩ ⟨kd, by omega⟩)
  rw [List.map_append, List.map_map, List.map_map] at hnd
  replace hnd : (((List.range kw).map fun (j : Nat) => nameS st (0 + (j : Nat))) ++ (((List.range kd).map fun (j : Nat) => (nameS st (10 + (j : Nat)), (mx ns (2 + (j : Nat))).fmod 4)).map (·.1))).Nodup := by
    rw [List.map_map]; exact hnd
  have lW : ((List.range kw).map fun (j : Nat) => nameS st (0 + (j : Nat))).length = kw := by rw [List.length_map, List.length_range]
  have lD : ((List.range kd).map fun (j : Nat) => (nameS st (10 + (j : Nat)), (mx ns (2 + (j : Nat))).fmod 4)).length = kd := by rw [List.length_map, List.length_range]
  have hWn : ∀ z ∈ ((List.range kw).map fun (j : Nat) => nameS st (0 + (j : Nat))), Pn z := fun z hz => by
    obtain ⟨j, _, rfl⟩ := List.mem_map.mp hz
    exact nameS_pn _ _
  have hDn : ∀ p ∈ ((List.range kd).map fun (j : Nat) => (nameS st (10 + (j : Nat)), (mx ns (2 + (j : Nat))).fmod 4)), Pn p.1 ∧ 0 ≤ p.2 ∧ p.2 ≤ 3 := fun p hp => by
    obtain ⟨j, _, rfl⟩ := List.mem_map.mp hp
    have := fm_lo (mx ns (2 + (j : Nat))) 4 (by decide)
    have := fm_hi (mx ns (2 + (j : Nat))) 4 (by decide)
    exact ⟨nameS_pn _ _, by omega, by omega⟩
  generalize ((List.range kw).map fun (j : Nat) => nameS st (0 + (j : Nat))) = ws at *
  generalize ((List.range kd).map fun (j : Nat) => (nameS st (10 + (j : Nat)), (mx ns (2 + (j : Nat))).fmod 4)) = DD at *
  clear eW eD
  subst lW
  subst lD
  -- the deeds
  have hdb : ∀ k ∈ List.range DD.length, ∃ d : Dd, (∀ p, DD[k]? = some p → hdOf d = p) ∧ (d.ps ++ d.os).length ≤ 10 ∧ (∃ nm dd pl, Nms nm ∧ Dds dd ∧ Pln pl ∧ ∀ x ∈ d.bs, Sm nm dd pl 2 x) ∧ d.bs.length ≤ 20 ∧ ∀ s, callF T n i__law_deed_by [.f (.int (mx ns (7 + (k : Nat)))), .f (.int st), .f (.int (k : Nat)), .f (.lst (ws.map F.str)), .f (.lst (DD.map prF))] s = .ok (.f d.val) s := fun k hk => by
    have hk := List.mem_range.mp hk
    obtain ⟨d, e1, e2⟩ := o_deedby (n := n) (by omega) (mx ns (7 + (k : Nat))) st k ws DD hk (by omega) hWn (by omega) hDn
    exact ⟨d, fun p hp => by rw [List.getElem?_eq_getElem hk] at hp; cases hp; exact e1, e2⟩
  obtain ⟨dk, hdk⟩ : ∃ f : Nat → Dd, ∀ k ∈ List.range DD.length, (∀ p, DD[k]? = some p → hdOf (f k) = p) ∧ ((f k).ps ++ (f k).os).length ≤ 10 ∧ (∃ nm dd pl, Nms nm ∧ Dds dd ∧ Pln pl ∧ ∀ x ∈ (f k).bs, Sm nm dd pl 2 x) ∧ (f k).bs.length ≤ 20 ∧ ∀ s, callF T n i__law_deed_by [.f (.int (mx ns (7 + (k : Nat)))), .f (.int st), .f (.int (k : Nat)), .f (.lst (ws.map F.str)), .f (.lst (DD.map prF))] s = .ok (.f (f k).val) s := by
    classical
    refine ⟨fun k => if hk : k ∈ List.range DD.length then Classical.choose (hdb k hk) else ⟨Str.empty, [], [], []⟩, fun k hk => ?_⟩
    simp only [hk, dif_pos]
    exact Classical.choose_spec (hdb k hk)
  clear hdb
  have lcM := fun s => lc_map (call := callF T n) (mk := callM T n) (env := [some (.f (.scr ns)), some (.f (.int st)), some (.f (.lst (ws.map F.str))), none, some (.f (.lst (DD.map prF))), none, none, none, none, none, none, none, none, none, none, none]) (s := s) (it := .rng1 (.bi .len [(.v 4)])) (p := .one 3) (c := none) (e := .call i__law_deed_by [(.call i__law_mixed [(.v 0), (.bin (.add false) (.k (.int 7)) (.v 3))]), (.v 1), (.v 3), (.v 2), (.v 4)])
    (l := List.range DD.length) (h := fun (j : Nat) => .f (.int (0 + (j : Nat)))) (g := fun (j : Nat) => some (dk j).val) (by
      have hDl : (DD.map prF).length = DD.length := List.length_map ..
      have ee : evE (callF T n) (callM T n) (.bi .len [(.v 4)]) [some (.f (.scr ns)), some (.f (.int st)), some (.f (.lst (ws.map F.str))), none, some (.f (.lst (DD.map prF))), none, none, none, none, none, none, none, none, none, none, none] s = .ok (.f (.int (DD.length : Nat))) s := by
        clear m0 m1 m6 lcW lcD hdk hDn hWn hnd
        generalize ws.map F.str = L at *
        generalize DD.map prF = L2 at *
        (simp (disch := first | omega | assumption | rfl | (simp only [List.length_cons, List.length_nil, List.length_map, List.length_append, len_appS]; omega)) only [evA, evC, Nat.reduceAdd, Nat.reduceSub, Int.reduceLT, Int.reduceLE, Int.reduceNeg, Int.reduceToNat, Int.reducePow, Int.reduceAdd, Int.reduceMul, Int.reduceEq, Int.reduceSub, reduceIte, reduceCtorEq, *])
      have := y_rngN ee (inR (by omega))
      rw [Int.toNat_natCast] at this
      exact this)
    (fun j hj => ⟨_, rfl, by
      have hj' := List.mem_range.mp hj
      have q := (hdk j hj).2.2.2.2
      have q2 := fun s => o_mix (n := n) (by omega) ns (7 + (j : Nat)) (by omega) s
      refine turn_none ?_
      simp only [Int.zero_add]
      clear m0 m1 m6 lcW lcD hdk hDn hWn hnd hj hkw hkd
      generalize ws.map F.str = L at *
      generalize DD.map prF = L2 at *
      generalize mx ns (7 + (j : Nat)) = x at *
      (simp (disch := first | omega | assumption | rfl | (simp only [List.length_cons, List.length_nil, List.length_map, List.length_append, len_appS]; omega)) only [evA, evC, Nat.reduceAdd, Nat.reduceSub, Int.reduceLT, Int.reduceLE, Int.reduceNeg, Int.reduceToNat, Int.reducePow, Int.reduceAdd, Int.reduceMul, Int.reduceEq, Int.reduceSub, reduceIte, reduceCtorEq, *])⟩) (by rw [List.length_range]; omega)
  simp only [fm_some] at lcM
  obtain ⟨ds, hds, hdse⟩ : ∃ ds : List Dd, ((List.range DD.length).map fun j => (dk j).val) = ds.map Dd.val ∧ (ds.map hdOf = DD ∧ ∀ d ∈ ds, (d.ps ++ d.os).length ≤ 10 ∧ (∃ nm dd pl, Nms nm ∧ Dds dd ∧ Pln pl ∧ ∀ x ∈ d.bs, Sm nm dd pl 2 x) ∧ d.bs.length ≤ 20) := by
    refine ⟨(List.range DD.length).map dk, by rw [List.map_map]; rfl, ?_, fun d hd => ?_⟩
    · refine List.ext_getElem? fun j => ?_
      rw [List.map_map, List.getElem?_map]
      by_cases hj : j < DD.length
      · rw [List.getElem?_range hj, List.getElem?_eq_getElem hj]
        show some (hdOf (dk j)) = _
        rw [(hdk j (List.mem_range.mpr hj)).1 _ (List.getElem?_eq_getElem hj)]
      · rw [List.getElem?_eq_none (by rw [List.length_range]; omega), List.getElem?_eq_none (by omega)]; rfl
    · obtain ⟨j, hj, rfl⟩ := List.mem_map.mp hd
      obtain ⟨_, e1, e2, e3, _⟩ := hdk j hj
      exact ⟨e1, e2, e3⟩
  rw [hds] at lcM
  clear hds hdk
  obtain ⟨hdh, hdp⟩ := hdse
  obtain ⟨nm, dd, pl, hN, hDd, hP, hms⟩ := o_mess (n := n) (by omega) c6 ws DD (by omega) hWn (by omega) hDn
  have hc0 : ∀ p ∈ DD, 0 ≤ p.2 := fun p hp => (hDn p hp).2.1
  have hdl : ds.length = DD.length := by rw [← hdh, List.length_map]
  -- the deeds' faults
  obtain ⟨g, hg⟩ : ∃ g : Dd → F, ∀ d ∈ ds, Blk 16 ((ws.map fun z => (z, (-1 : Int))) ++ DD) (d.ps ++ d.os) (.tup d.bs) (g d) ∧ ∀ m, 16 ≤ m → Lf m i__law_fault_of_block (ws ++ (d.ps ++ d.os)) (DD.filter fun p => decide (p.1 ∉ d.ps ++ d.os)) (.tup d.bs) (g d) := by
    have hx : ∀ d ∈ ds, ∃ r, Blk 16 ((ws.map fun z => (z, (-1 : Int))) ++ DD) (d.ps ++ d.os) (.tup d.bs) r ∧ ∀ m, 16 ≤ m → Lf m i__law_fault_of_block (ws ++ (d.ps ++ d.os)) (DD.filter fun p => decide (p.1 ∉ d.ps ++ d.os)) (.tup d.bs) r := fun d hd => by
      obtain ⟨e1, ⟨nm2, dd2, pl2, u1, u2, u3, u4⟩, e3⟩ := hdp d hd
      exact blk_uni u1 u2 u3 ws DD (d.ps ++ d.os) (by omega) hc0 d.bs (by omega) u4
    classical
    refine ⟨fun d => if h : d ∈ ds then Classical.choose (hx d h) else .non, fun d hd => ?_⟩
    simp only [hd, dif_pos]
    exact Classical.choose_spec (hx d hd)
  -- the last block
  obtain ⟨env', s', hf, ⟨v3, hev⟩, bl, hs', hbl, lbl⟩ := for_run (call := callF T n) (mk := callM T n) (sub := T.sub) (env := [some (.f (.scr ns)), some (.f (.int st)), some (.f (.lst (ws.map F.str))), none, some (.f (.lst (DD.map prF))), some (.f (.lst (ds.map Dd.val))), some (.f (.lst nm)), some (.f (.lst dd)), some (.f (.lst pl)), some (.loc 0), none, none, none, none, none, none]) (s := [.lst []]) (p := .one 3) (it := .rng1 (.bi .min2 [(.k (.int 20)), (.bi .max2 [(.k (.int 1)), (.bin .sub (.bi .len [(.v 0)]) (.k (.int 12)))])])) (b := [.ex (.bm .append (.v 9) [(.call i__law_statement [(.call i__law_mixed [(.v 0), (.bin (.add false) (.k (.int 12)) (.v 3))]), (.v 6), (.v 7), (.v 8), (.k (.int 2))])])])
    (items := rngL 0 (if (if (ns.length : Int) - 12 > 1 then (ns.length : Int) - 12 else 1) < 20 then (if (ns.length : Int) - 12 > 1 then (ns.length : Int) - 12 else 1) else 20).toNat)
    (by
      have ee : evE (callF T n) (callM T n) (.bi .min2 [(.k (.int 20)), (.bi .max2 [(.k (.int 1)), (.bin .sub (.bi .len [(.v 0)]) (.k (.int 12)))])]) [some (.f (.scr ns)), some (.f (.int st)), some (.f (.lst (ws.map F.str))), none, some (.f (.lst (DD.map prF))), some (.f (.lst (ds.map Dd.val))), some (.f (.lst nm)), some (.f (.lst dd)), some (.f (.lst pl)), some (.loc 0), none, none, none, none, none, none] [.lst []] = .ok (.f (.int (if (if (ns.length : Int) - 12 > 1 then (ns.length : Int) - 12 else 1) < 20 then (if (ns.length : Int) - 12 > 1 then (ns.length : Int) - 12 else 1) else 20))) [.lst []] := by
        have e1 : evE (callF T n) (callM T n) (.bin .sub (.bi .len [(.v 0)]) (.k (.int 12))) [some (.f (.scr ns)), some (.f (.int st)), some (.f (.lst (ws.map F.str))), none, some (.f (.lst (DD.map prF))), some (.f (.lst (ds.map Dd.val))), some (.f (.lst nm)), some (.f (.lst dd)), some (.f (.lst pl)), some (.loc 0), none, none, none, none, none, none] [.lst []] = .ok (.f (.int ((ns.length : Int) - 12))) [.lst []] := by
          clear m0 m1 m6 lcW lcD lcM hdp hg hms hDn hWn hnd
          generalize ws.map F.str = L at *
          generalize DD.map prF = L2 at *
          generalize ds.map Dd.val = L3 at *
          (simp (disch := first | omega | assumption | rfl | (simp only [List.length_cons, List.length_nil, List.length_map, List.length_append, len_appS]; omega)) only [evA, evC, Nat.reduceAdd, Nat.reduceSub, Int.reduceLT, Int.reduceLE, Int.reduceNeg, Int.reduceToNat, Int.reducePow, Int.reduceAdd, Int.reduceMul, Int.reduceEq, Int.reduceSub, reduceIte, reduceCtorEq])
        rw [x_bi, x_cons, x_k]
        simp only [R.bind_ok]
        rw [x_cons, x_bi, x_cons, x_k]
        simp only [R.bind_ok]
        rw [x_cons, e1]
        rfl
      exact y_rngN ee (inR (by split <;> split <;> omega)))
    (fun j env s' => (∃ v, env = [some (.f (.scr ns)), some (.f (.int st)), some (.f (.lst (ws.map F.str))), v, some (.f (.lst (DD.map prF))), some (.f (.lst (ds.map Dd.val))), some (.f (.lst nm)), some (.f (.lst dd)), some (.f (.lst pl)), some (.loc 0), none, none, none, none, none, none]) ∧ ∃ bl : List F, s' = [.lst (bl.map D.f)] ∧ (∀ x ∈ bl, Sm nm dd pl 2 x) ∧ bl.length ≤ j)
    ⟨⟨none, rfl⟩, [], rfl, by simp, by simp⟩ (fun j x env s2 hx hP2 => by
      obtain ⟨⟨v, rfl⟩, bl, rfl, hbl, hjl⟩ := hP2
      obtain ⟨hj, rfl⟩ := rngL_get hx
      have hj20 : j < 20 := by revert hj; split <;> split <;> omega
      have q2 := fun s => o_mix (n := n) (by omega) ns (12 + (j : Nat)) (by omega) s
      obtain ⟨y, hy, hyc⟩ := o_statement nm dd pl hN hDd hP 2 (n := n) (by omega) (mx ns (12 + (j : Nat)))
      refine ⟨[some (.f (.scr ns)), some (.f (.int st)), some (.f (.lst (ws.map F.str))), some (.f (.int (0 + (j : Nat)))), some (.f (.lst (DD.map prF))), some (.f (.lst (ds.map Dd.val))), some (.f (.lst nm)), some (.f (.lst dd)), some (.f (.lst pl)), some (.loc 0), none, none, none, none, none, none], [some (.f (.scr ns)), some (.f (.int st)), some (.f (.lst (ws.map F.str))), some (.f (.int (0 + (j : Nat)))), some (.f (.lst (DD.map prF))), some (.f (.lst (ds.map Dd.val))), some (.f (.lst nm)), some (.f (.lst dd)), some (.f (.lst pl)), some (.loc 0), none, none, none, none, none, none], [.lst ((bl ++ [y]).map D.f)], rfl, .inl ?_, ⟨_, rfl⟩, bl ++ [y], rfl, ?_, by rw [List.length_append, List.length_singleton]; omega⟩
      · have e2 : ((2 : Nat) : Int) = 2 := rfl
        rw [e2] at hyc
        have ee : evE (callF T n) (callM T n) (.call i__law_statement [(.call i__law_mixed [(.v 0), (.bin (.add false) (.k (.int 12)) (.v 3))]), (.v 6), (.v 7), (.v 8), (.k (.int 2))]) [some (.f (.scr ns)), some (.f (.int st)), some (.f (.lst (ws.map F.str))), some (.f (.int (0 + (j : Nat)))), some (.f (.lst (DD.map prF))), some (.f (.lst (ds.map Dd.val))), some (.f (.lst nm)), some (.f (.lst dd)), some (.f (.lst pl)), some (.loc 0), none, none, none, none, none, none] [.lst (bl.map D.f)] = .ok (.f y) [.lst (bl.map D.f)] := by
          simp only [Int.zero_add]
          clear m0 m1 m6 lcW lcD lcM hdp hg hms hDn hWn hnd hbl hy hx hj hkw hkd
          generalize ws.map F.str = L at *
          generalize DD.map prF = L2 at *
          generalize ds.map Dd.val = L3 at *
          generalize bl.map D.f = L4 at *
          generalize mx ns (12 + (j : Nat)) = x at *
          (simp (disch := first | omega | assumption | rfl | (simp only [List.length_cons, List.length_nil, List.length_map, List.length_append, len_appS]; omega)) only [evA, evC, Nat.reduceAdd, Nat.reduceSub, Int.reduceLT, Int.reduceLE, Int.reduceNeg, Int.reduceToNat, Int.reducePow, Int.reduceAdd, Int.reduceMul, Int.reduceEq, Int.reduceSub, reduceIte, reduceCtorEq, *])
        have hlen : (bl.map D.f).length < 16777216 := by rw [List.length_map]; omega
        rw [z_cons, z_ex, x_bm, x_v]
        simp only [List.getElem?_cons_succ, List.getElem?_cons_zero, R.bind_ok]
        rw [List.map_append]
        generalize bl.map D.f = L4 at *
        have t1 : bmTy .append (.loc 0) [.lst L4] = true := rfl
        simp only [t1, if_true, x_cons, ee, R.bind_ok, x_nil]
        have e3 : bm .append (.loc 0) [.f y] [.lst L4] = .ok (.f .non) [.lst (L4 ++ [D.f y])] := by
          show (if L4.length < sizeLine then _ else _) = _
          rw [if_pos (by rw [sizeLine_eq]; omega)]
          rfl
        rw [e3]
        rfl
      · intro x hx
        rcases List.mem_append.mp hx with hx | hx
        · exact hbl x hx
        · rw [List.mem_singleton.mp hx]; exact hy)
  subst hev
  subst hs'
  rw [rngL_len] at lbl
  have lbl : bl.length ≤ 20 := by revert lbl; split <;> split <;> omega
  obtain ⟨rb, hrb, hlb⟩ := blk_uni hN hDd hP ws DD [] (by omega) hc0 bl (by omega) hbl
  have hlb : ∀ m, 16 ≤ m → Lf m i__law_fault_of_block ws DD (.tup bl) rb := fun m hm => by
    have := hlb m hm
    rw [List.append_nil] at this
    have e : (DD.filter fun p => decide (p.1 ∉ ([] : List Str))) = DD := by simp
    rw [e] at this
    exact this
  have hnu := fun s => o_name (n := n) (by omega) st 25 s
  generalize nameS st 25 = un at hnu
  -- the law's account
  have hgs : ∀ x ∈ ds.map g, Flt x := fun x hx => by
    obtain ⟨d, hd, rfl⟩ := List.mem_map.mp hx
    exact (hg d hd).1.1
  have hfl : ∀ j, Flt (firstF ((ds.map g).take j)) := fun j => firstF_flt fun x hx => hgs x (List.mem_of_mem_take hx)
  obtain ⟨env2, s2, hf2, ⟨x3, x12, x13, x14, x15, rfl⟩, hs2⟩ := for_run (call := callF T n) (mk := callM T n) (sub := T.sub) (env := [some (.f (.scr ns)), some (.f (.int st)), some (.f (.lst (ws.map F.str))), v3, some (.f (.lst (DD.map prF))), some (.f (.lst (ds.map Dd.val))), some (.f (.lst nm)), some (.f (.lst dd)), some (.f (.lst pl)), some (.loc 0), some (.f (untF un [] ws ds bl)), some (.f .non), none, none, none, none]) (s := [.lst (bl.map D.f)]) (p := .one 12) (it := .seq (.v 5))
    (b := [.set 13 (.bin (.add false) (.bi (.list false) [(.idx (.v 12) (.k (.int 1)))]) (.bi (.list false) [(.idx (.v 12) (.k (.int 2)))])), .set 14 (.lc false (.seq (.v 4)) (.one 15) (some (.cmp .nin (.idx (.v 15) (.k (.int 0))) (.v 13))) (.v 15)), .set 11 (.call i__law_first [(.lst false [(.v 11), (.call i__law_fault_of_block [(.idx (.v 12) (.k (.int 3))), (.bin (.add false) (.v 2) (.v 13)), (.v 14)])])])]) (items := (ds.map Dd.val).map D.f) rfl
    (fun j env s' => (∃ v3 v12 v13 v14 v15, env = [some (.f (.scr ns)), some (.f (.int st)), some (.f (.lst (ws.map F.str))), v3, some (.f (.lst (DD.map prF))), some (.f (.lst (ds.map Dd.val))), some (.f (.lst nm)), some (.f (.lst dd)), some (.f (.lst pl)), some (.loc 0), some (.f (untF un [] ws ds bl)), some (.f (firstF ((ds.map g).take j))), v12, v13, v14, v15]) ∧ s' = [.lst (bl.map D.f)])
    ⟨⟨v3, none, none, none, none, rfl⟩, rfl⟩ (fun j x env s2 hx hP2 => by
      obtain ⟨⟨y3, y12, y13, y14, y15, rfl⟩, rfl⟩ := hP2
      obtain ⟨d, hdj, rfl⟩ : ∃ d, ds[j]? = some d ∧ x = .f d.val := by
        rw [List.getElem?_map, List.getElem?_map] at hx
        cases e : ds[j]? with
        | none => rw [e] at hx; cases hx
        | some y => rw [e] at hx; cases hx; exact ⟨y, rfl, rfl⟩
      have hdm := List.mem_of_getElem? hdj
      have et : (ds.map g).take (j + 1) = (ds.map g).take j ++ [g d] := by
        rw [List.take_succ, List.getElem?_map, hdj]; rfl
      have hgd := (hg d hdm).1.1
      have hc := hfl j
      have hnew : firstF ((ds.map g).take (j + 1)) = firstF [firstF ((ds.map g).take j), g d] := by
        rw [et, firstF_snoc (fun y hy => hgs y (List.mem_of_mem_take hy)) hgd]
        cases q : isN (firstF ((ds.map g).take j)) with
        | true => rw [if_pos rfl, firstF_yes q, firstF_one hgd]
        | false => rw [if_neg (by decide), firstF_no q]
      have hfi := fun s => o_first (n := n) (by omega) [firstF ((ds.map g).take j), g d] (fun x hx => by
        rcases List.mem_cons.mp hx with rfl | hx
        · exact hc
        · rw [List.mem_singleton.mp hx]; exact hgd) s
      rw [← hnew] at hfi
      have hlf := (hg d hdm).2 n (by omega)
      have hlf := fun s => hlf s
      obtain ⟨hl1, _, _⟩ := hdp d hdm
      generalize firstF ((ds.map g).take j) = cur at *
      generalize firstF ((ds.map g).take (j + 1)) = nxt at *
      generalize hzs : d.ps ++ d.os = zs at *
      have ezs : zs.map F.str = d.ps.map F.str ++ d.os.map F.str := by rw [← hzs, List.map_append]
      have lzs : (d.ps.map F.str).length + (d.os.map F.str).length ≤ 10 := by
        rw [List.length_map, List.length_map, ← List.length_append, hzs]; exact hl1
      have lws : (ws.map F.str).length ≤ 10 := by rw [List.length_map]; omega
      have hin : ∀ (z : Str) s, cNin (.f (.str z)) (.f (.lst (zs.map F.str))) s = .ok (.f (.bl (!decide (z ∈ zs)))) s := fun z s => by
        have e : hasIn (.f (.str z)) (.f (.lst (zs.map F.str))) s = some (decide (z ∈ zs)) := by
          unfold hasIn
          simp only [dGet, seqL, seqT, Option.or]
          rw [List.map_map]
          have e : (D.f ∘ F.str) = fun y => D.f (.str y) := rfl
          rw [e, JM.flat_strs, JM.inSeq_str]
          rfl
        unfold cNin
        rw [e]
      have lcO := fun (v14 : Option D) => lc_map (call := callF T n) (mk := callM T n) (env := [some (.f (.scr ns)), some (.f (.int st)), some (.f (.lst (ws.map F.str))), y3, some (.f (.lst (DD.map prF))), some (.f (.lst (ds.map Dd.val))), some (.f (.lst nm)), some (.f (.lst dd)), some (.f (.lst pl)), some (.loc 0), some (.f (untF un [] ws ds bl)), some (.f cur), some (.f d.val), some (.f (.lst (zs.map F.str))), v14, y15]) (s := [.lst (bl.map D.f)]) (it := .seq (.v 4)) (p := .one 15) (c := some (.cmp .nin (.idx (.v 15) (.k (.int 0))) (.v 13))) (e := .v 15) (l := DD) (h := fun p => .f (prF p)) (g := fun p => if p.1 ∈ zs then none else some (prF p))
        (by
          rw [y_seq, x_v]
          simp only [List.getElem?_cons_succ, List.getElem?_cons_zero, R.bind_ok, it_lst, List.map_map]
          rfl)
        (fun p hp => ⟨_, rfl, by
          replace hin := fun s => hin p.1 s
          clear ezs lzs
          clear m0 m1 m6 lcW lcD lcM hdp hg hms hDn hWn hnd hkw hkd hf hfi hlf hnu hlb hrb hp
          generalize ws.map F.str = L at *
          generalize DD.map prF = L2 at *
          generalize ds.map Dd.val = L3 at *
          generalize bl.map D.f = L4 at *
          generalize zs.map F.str = L5 at *
          generalize untF un [] ws ds bl = U at *
          generalize d.val = dv at *
          unfold prF
          by_cases q : p.1 ∈ zs
          · rw [if_pos q]
            rw [decide_eq_true q] at hin
            exact turn_no (by clear q; (simp (disch := first | omega | assumption | rfl | (simp only [List.length_cons, List.length_nil, List.length_map, List.length_append, len_appS]; omega)) only [evA, evC, Nat.reduceAdd, Nat.reduceSub, Int.reduceLT, Int.reduceLE, Int.reduceNeg, Int.reduceToNat, Int.reducePow, Int.reduceAdd, Int.reduceMul, Int.reduceEq, Int.reduceSub, reduceIte, reduceCtorEq, *]))
          · rw [if_neg q]
            rw [decide_eq_false q] at hin
            exact turn_yes (by clear q; (simp (disch := first | omega | assumption | rfl | (simp only [List.length_cons, List.length_nil, List.length_map, List.length_append, len_appS]; omega)) only [evA, evC, Nat.reduceAdd, Nat.reduceSub, Int.reduceLT, Int.reduceLE, Int.reduceNeg, Int.reduceToNat, Int.reducePow, Int.reduceAdd, Int.reduceMul, Int.reduceEq, Int.reduceSub, reduceIte, reduceCtorEq, *])) rfl⟩) (by omega)
      rw [filt_tup] at lcO
      have e4 : (ws ++ zs).map F.str = ws.map F.str ++ zs.map F.str := List.map_append
      rw [e4] at hlf
      refine ⟨[some (.f (.scr ns)), some (.f (.int st)), some (.f (.lst (ws.map F.str))), y3, some (.f (.lst (DD.map prF))), some (.f (.lst (ds.map Dd.val))), some (.f (.lst nm)), some (.f (.lst dd)), some (.f (.lst pl)), some (.loc 0), some (.f (untF un [] ws ds bl)), some (.f cur), some (.f d.val), y13, y14, y15], [some (.f (.scr ns)), some (.f (.int st)), some (.f (.lst (ws.map F.str))), y3, some (.f (.lst (DD.map prF))), some (.f (.lst (ds.map Dd.val))), some (.f (.lst nm)), some (.f (.lst dd)), some (.f (.lst pl)), some (.loc 0), some (.f (untF un [] ws ds bl)), some (.f nxt), some (.f d.val), some (.f (.lst (zs.map F.str))), some (.f (.lst ((DD.filter fun p => decide (p.1 ∉ zs)).map prF))), y15], [.lst (bl.map D.f)], rfl, .inl ?_, ⟨_, _, _, _, _, rfl⟩, rfl⟩
      have lz5 : (zs.map F.str).length ≤ 10 := by rw [ezs, List.length_append]; exact lzs
      have lcO := lcO y14
      clear m0 m1 m6 lcW lcD lcM hdp hg hms hDn hWn hnd hkw hkd hf hnu hlb hrb hin hnew et hgs hfl hc hgd hdj hx hdm
      generalize ds.map Dd.val = L3 at *
      generalize bl.map D.f = L4 at *
      generalize untF un [] ws ds bl = U at *
      unfold Dd.val at *
      generalize (DD.filter fun p => decide (p.1 ∉ zs)).map prF = L6 at *
      generalize ws.map F.str = L at *
      generalize DD.map prF = L2 at *
      generalize zs.map F.str = L5 at *
      generalize d.ps.map F.str = L7 at *
      generalize d.os.map F.str = L8 at *
      refine set_st (.f (.lst L5)) ?_ (set_st (.f (.lst L6)) lcO (set_st (.f nxt) ?_ z_nil))
      · clear lcO hlf hfi
        subst ezs
        (simp (disch := first | omega | assumption | rfl | (simp only [List.length_cons, List.length_nil, List.length_map, List.length_append, len_appS]; omega)) only [evA, evC, Nat.reduceAdd, Nat.reduceSub, Int.reduceLT, Int.reduceLE, Int.reduceNeg, Int.reduceToNat, Int.reducePow, Int.reduceAdd, Int.reduceMul, Int.reduceEq, Int.reduceSub, reduceIte, reduceCtorEq])
      · clear lcO
        have lzL : L.length + L5.length ≤ 100 := by omega
        clear ezs lzs
        (simp (disch := first | omega | assumption | rfl | (simp only [List.length_cons, List.length_nil, List.length_map, List.length_append, len_appS]; omega)) only [evA, evC, Nat.reduceAdd, Nat.reduceSub, Int.reduceLT, Int.reduceLE, Int.reduceNeg, Int.reduceToNat, Int.reducePow, Int.reduceAdd, Int.reduceMul, Int.reduceEq, Int.reduceSub, reduceIte, reduceCtorEq, *]))
  rw [List.length_map, List.length_map, ← List.length_map (f := g), List.take_length] at hf2
  subst hs2
  have hrf := hrb.1
  have hsn := firstF_snoc hgs hrf
  have hlast : firstF [firstF (ds.map g), rb] = firstF (ds.map g ++ [rb]) := by
    rw [hsn]
    cases q : isN (firstF (ds.map g)) with
    | true => rw [if_pos rfl, firstF_yes q, firstF_one hrf]
    | false => rw [if_neg (by decide), firstF_no q]
  have hfi := fun s => o_first (n := n) (by omega) [firstF (ds.map g), rb] (fun x hx => by
    rcases List.mem_cons.mp hx with rfl | hx
    · exact firstF_flt hgs
    · rw [List.mem_singleton.mp hx]; exact hrf) s
  rw [hlast] at hfi
  have hFl : Flt (firstF (ds.map g ++ [rb])) := firstF_flt fun x hx => by
    rcases List.mem_append.mp hx with hx | hx
    · exact hgs x hx
    · rw [List.mem_singleton.mp hx]; exact hrf
  have eds : ds.map (·.nm) = DD.map (·.1) := by rw [← hdh, List.map_map]; rfl
  have hfo := fun (f : D) (s : Sto) => o_fault0 (n := n) (b := 16) (by omega) (by omega) un ws ds bl (by omega) (by omega) (by rw [eds]; exact hnd) g (fun d hd => ⟨by have := (hdp d hd).1; omega, by rw [hdh]; exact (hg d hd).1⟩) rb (by rw [hdh]; exact hrb) f s
  have hlb := fun s => hlb n (by omega) s
  clear hdp hg hrb hbl hN hDd hP hWn hDn hnd hsn hlast hgs hfl hrf hdh eds hc0
  generalize firstF (ds.map g ++ [rb]) = r at *
  generalize firstF (ds.map g) = r0 at *
  obtain ⟨t1, h1⟩ := hfo (.loc 1) [.lst (bl.map D.f), .dK []]
  obtain ⟨t2, h2⟩ := hfo (.loc t1.length) (t1 ++ [.dK []])
  refine ⟨t2, ?_⟩
  rw [call_eq (F := F_law) rfl rfl]
  have key : exSs (callF T n) (callM T n) T.sub B_law [some (.f (.scr ns)), none, none, none, none, none, none, none, none, none, none, none, none, none, none, none] [] = .rt (.f (.bl true)) t2 := by
    clear hfo
    have lw : (ws.map F.str).length ≤ 10 := by rw [List.length_map]; omega
    have ldv : (ds.map Dd.val).length ≤ 10 := by rw [List.length_map]; omega
    refine set_st (.f (.int st)) ?_ (set_st (.f (.lst (ws.map F.str))) (lcW []) (set_st (.f (.lst (DD.map prF))) (lcD _ []) (set_st (.f (.lst (ds.map Dd.val))) (lcM []) ?_)))
    · clear m1 m6 lcW lcD lcM hms hf hf2 hfi hlb h1 h2 hnu
      (simp (disch := first | omega | assumption | rfl | (simp only [List.length_cons, List.length_nil, List.length_map, List.length_append, len_appS]; omega)) only [evA, evC, Nat.reduceAdd, Nat.reduceSub, Int.reduceLT, Int.reduceLE, Int.reduceNeg, Int.reduceToNat, Int.reducePow, Int.reduceAdd, Int.reduceMul, Int.reduceEq, Int.reduceSub, reduceIte, reduceCtorEq, *])
    clear lcW lcD lcM m0 m1
    refine run_st [some (.f (.scr ns)), some (.f (.int st)), some (.f (.lst (ws.map F.str))), none, some (.f (.lst (DD.map prF))), some (.f (.lst (ds.map Dd.val))), some (.f (.lst nm)), some (.f (.lst dd)), some (.f (.lst pl)), none, none, none, none, none, none, none] [] ?_ ?_
    · have ee : evE (callF T n) (callM T n) (.call i__law_mess [(.call i__law_mixed [(.v 0), (.k (.int 6))]), (.v 2), (.v 4)]) [some (.f (.scr ns)), some (.f (.int st)), some (.f (.lst (ws.map F.str))), none, some (.f (.lst (DD.map prF))), some (.f (.lst (ds.map Dd.val))), none, none, none, none, none, none, none, none, none, none] [] = .ok (.f (.tup [.lst nm, .lst dd, .lst pl])) [] := by
        clear hf hf2 hfi hlb h1 h2 hnu
        generalize ws.map F.str = L at *
        generalize DD.map prF = L2 at *
        generalize ds.map Dd.val = L3 at *
        (simp (disch := first | omega | assumption | rfl | (simp only [List.length_cons, List.length_nil, List.length_map, List.length_append, len_appS]; omega)) only [evA, evC, Nat.reduceAdd, Nat.reduceSub, Int.reduceLT, Int.reduceLE, Int.reduceNeg, Int.reduceToNat, Int.reducePow, Int.reduceAdd, Int.reduceMul, Int.reduceEq, Int.reduceSub, reduceIte, reduceCtorEq, *])
      show exS (callF T n) (callM T n) T.sub (.unp [6, 7, 8] (.call i__law_mess [(.call i__law_mixed [(.v 0), (.k (.int 6))]), (.v 2), (.v 4)])) [some (.f (.scr ns)), some (.f (.int st)), some (.f (.lst (ws.map F.str))), none, some (.f (.lst (DD.map prF))), some (.f (.lst (ds.map Dd.val))), none, none, none, none, none, none, none, none, none, none] [] = _
      rw [z_unp, ee]
      rfl
    clear hms m6
    have e9 : evE (callF T n) (callM T n) (.lst true []) [some (.f (.scr ns)), some (.f (.int st)), some (.f (.lst (ws.map F.str))), none, some (.f (.lst (DD.map prF))), some (.f (.lst (ds.map Dd.val))), some (.f (.lst nm)), some (.f (.lst dd)), some (.f (.lst pl)), none, none, none, none, none, none, none] [] = .ok (.loc 0) [.lst []] := rfl
    show exSs (callF T n) (callM T n) T.sub (B_law.drop 5) [some (.f (.scr ns)), some (.f (.int st)), some (.f (.lst (ws.map F.str))), none, some (.f (.lst (DD.map prF))), some (.f (.lst (ds.map Dd.val))), some (.f (.lst nm)), some (.f (.lst dd)), some (.f (.lst pl)), none, none, none, none, none, none, none] [] = _
    unfold B_law
    simp only [List.drop_succ_cons, List.drop_zero]
    rw [set_go e9]
    simp only [List.set_cons_succ, List.set_cons_zero]
    rw [z_cons, hf, O.bind_nx]
    have e10 : evE (callF T n) (callM T n) (.tup [(.call i__law_name [(.v 1), (.k (.int 25))]), (.tup []), (.bi .tuple [(.v 2)]), (.bi .tuple [(.v 5)]), (.bi .tuple [(.v 9)])]) [some (.f (.scr ns)), some (.f (.int st)), some (.f (.lst (ws.map F.str))), v3, some (.f (.lst (DD.map prF))), some (.f (.lst (ds.map Dd.val))), some (.f (.lst nm)), some (.f (.lst dd)), some (.f (.lst pl)), some (.loc 0), none, none, none, none, none, none] [.lst (bl.map D.f)] = .ok (.f (untF un [] ws ds bl)) [.lst (bl.map D.f)] := by
      have eb : bi .tuple [.loc 0] [.lst (bl.map D.f)] = .ok (.f (.tup bl)) [.lst (bl.map D.f)] := by
        show newT (bl.map D.f) [.lst (bl.map D.f)] = _
        exact c_newT _ (by omega)
      clear hf hf2 hfi hlb h1 h2 e9
      unfold untF
      generalize ws.map F.str = L at *
      generalize DD.map prF = L2 at *
      generalize ds.map Dd.val = L3 at *
      generalize bl.map D.f = L4 at *
      (simp (disch := first | omega | assumption | rfl | (simp only [List.length_cons, List.length_nil, List.length_map, List.length_append, len_appS]; omega)) only [evA, evC, Nat.reduceAdd, Nat.reduceSub, Int.reduceLT, Int.reduceLE, Int.reduceNeg, Int.reduceToNat, Int.reducePow, Int.reduceAdd, Int.reduceMul, Int.reduceEq, Int.reduceSub, reduceIte, reduceCtorEq, *])
    rw [set_go e10]
    simp only [List.set_cons_succ, List.set_cons_zero]
    rw [set_go (show evE (callF T n) (callM T n) (.k .non) _ [.lst (bl.map D.f)] = .ok (.f .non) [.lst (bl.map D.f)] from rfl)]
    simp only [List.set_cons_succ, List.set_cons_zero]
    rw [z_cons, hf2, O.bind_nx]
    have e11 : evE (callF T n) (callM T n) (.call i__law_first [(.lst false [(.v 11), (.call i__law_fault_of_block [(.bi .tuple [(.v 9)]), (.v 2), (.v 4)])])]) [some (.f (.scr ns)), some (.f (.int st)), some (.f (.lst (ws.map F.str))), x3, some (.f (.lst (DD.map prF))), some (.f (.lst (ds.map Dd.val))), some (.f (.lst nm)), some (.f (.lst dd)), some (.f (.lst pl)), some (.loc 0), some (.f (untF un [] ws ds bl)), some (.f r0), x12, x13, x14, x15] [.lst (bl.map D.f)] = .ok (.f r) [.lst (bl.map D.f)] := by
      have eb : bi .tuple [.loc 0] [.lst (bl.map D.f)] = .ok (.f (.tup bl)) [.lst (bl.map D.f)] := by
        show newT (bl.map D.f) [.lst (bl.map D.f)] = _
        exact c_newT _ (by omega)
      clear hf hf2 h1 h2 e9 e10 hnu
      generalize untF un [] ws ds bl = U at *
      generalize ws.map F.str = L at *
      generalize DD.map prF = L2 at *
      generalize ds.map Dd.val = L3 at *
      generalize bl.map D.f = L4 at *
      (simp (disch := first | omega | assumption | rfl | (simp only [List.length_cons, List.length_nil, List.length_map, List.length_append, len_appS]; omega)) only [evA, evC, Nat.reduceAdd, Nat.reduceSub, Int.reduceLT, Int.reduceLE, Int.reduceNeg, Int.reduceToNat, Int.reducePow, Int.reduceAdd, Int.reduceMul, Int.reduceEq, Int.reduceSub, reduceIte, reduceCtorEq, *])
    rw [set_go e11]
    simp only [List.set_cons_succ, List.set_cons_zero]
    clear hf hf2 e9 e10 e11 hfi hlb hnu
    refine ret_go ?_
    have he := fun s => e_eqF hFl s
    generalize untF un [] ws ds bl = U at *
    generalize ws.map F.str = L at *
    generalize DD.map prF = L2 at *
    generalize ds.map Dd.val = L3 at *
    generalize bl.map D.f = L4 at *
    have q1 : evE (callF T n) (callM T n) (.cmp .eq (.calli i_fault_of [(.v 10), (.dic false), (.k .non)]) (.v 11)) [some (.f (.scr ns)), some (.f (.int st)), some (.f (.lst L)), x3, some (.f (.lst L2)), some (.f (.lst L3)), some (.f (.lst nm)), some (.f (.lst dd)), some (.f (.lst pl)), some (.loc 0), some (.f U), some (.f r), x12, x13, x14, x15] [.lst L4] = .ok (.f (.bl true)) t1 := by
      have ea : evEs (callF T n) (callM T n) [(.v 10), (.dic false), (.k .non)] [some (.f (.scr ns)), some (.f (.int st)), some (.f (.lst L)), x3, some (.f (.lst L2)), some (.f (.lst L3)), some (.f (.lst nm)), some (.f (.lst dd)), some (.f (.lst pl)), some (.loc 0), some (.f U), some (.f r), x12, x13, x14, x15] [.lst L4] = .ok [.f U, .loc 1, .f .non] [.lst L4, .dK []] := rfl
      rw [x_cmp, x_calli, ea, R.bind_ok, h1]
      exact he t1
    have q2 : evE (callF T n) (callM T n) (.cmp .eq (.calli i_fault_of [(.v 10), (.dic false), (.k .non)]) (.v 11)) [some (.f (.scr ns)), some (.f (.int st)), some (.f (.lst L)), x3, some (.f (.lst L2)), some (.f (.lst L3)), some (.f (.lst nm)), some (.f (.lst dd)), some (.f (.lst pl)), some (.loc 0), some (.f U), some (.f r), x12, x13, x14, x15] t1 = .ok (.f (.bl true)) t2 := by
      have ea : evEs (callF T n) (callM T n) [(.v 10), (.dic false), (.k .non)] [some (.f (.scr ns)), some (.f (.int st)), some (.f (.lst L)), x3, some (.f (.lst L2)), some (.f (.lst L3)), some (.f (.lst nm)), some (.f (.lst dd)), some (.f (.lst pl)), some (.loc 0), some (.f U), some (.f r), x12, x13, x14, x15] t1 = .ok [.f U, .loc t1.length, .f .non] (t1 ++ [.dK []]) := rfl
      rw [x_cmp, x_calli, ea, R.bind_ok, h2]
      exact he t2
    generalize E.cmp CO.eq _ _ = e0 at *
    rw [x_and, x_andC, q1, R.bind_ok]
    simp only [if_true]
    rw [x_and1, q2]
    rfl
  show (exSs (callF T n) (callM T n) T.sub B_law [some (.f (.scr ns)), none, none, none, none, none, none, none, none, none, none, none, none, none, none, none] []).res = _
  rw [key]; rfl


end K11

open PySem PySem.W PySem.Calls PyProof.Rows JM in
theorem K11_holds (hlaw : ∀ ns : List Int, ns.length ≤ 63 → ∃ s, callF K11.T (K11.lev + 1) 33 [.f (.scr ns)] [] = .ok (.f (.bl true)) s) : PySem.Challenge.rw_joinmill_k11_blocks_of_units.Holds := by
  w_on; o_law
  refine HandSHeadRun.head_any (r := OpenLaw.row PySem.Challenge.rw_joinmill_k11_blocks_of_units) (q := view (OpenLaw.row PySem.Challenge.rw_joinmill_k11_blocks_of_units).prog [36]) (H := K11.hk) (ob := K11.ob) (M := 6000) (loose := K11.loose) (d := HandSHeadRun.topDef (OpenLaw.row PySem.Challenge.rw_joinmill_k11_blocks_of_units).prog 36) (kwd := []) K11.ob_eq
    (by kernel_rfl) (fun s => by kernel_rfl) K11.run (by kernel_rfl) (by kernel_rfl) (by kernel_rfl) (by rfl) (by first | assumption | decide +kernel) (by decide +kernel) ⟨rfl, rfl, rfl, rfl, rfl, by decide +kernel⟩ ?hw ?hc
  case hw => w_witness2
  case hc =>
    refine JM.walk_ofW (l := PySem.Challenge.rw_joinmill_k11_blocks_of_units) (n := 63) (k := K11.lev + 1) (x := "_law_script") (CX := fun w => L2.CX PySem.Challenge.rw_joinmill_k11_blocks_of_units.prog w) rfl (by decide) (by kernel_rfl) ⟨rfl, by decide, by decide⟩ ?F (fun w H s e s' z => JM.cx_none _ w H s e s' z)
    intro w mg fa h Y G hmg0
    obtain ⟨K, KX, c⟩ := Y
    have hmg : mg ("law" : PySem.Str) = some (.ref fa) := by
      have e : (HandSHeadRun.topDef (OpenLaw.row PySem.Challenge.rw_joinmill_k11_blocks_of_units).prog 36).name = ("law" : PySem.Str) := by kernel_rfl
      rw [← e]
      exact hmg0
    obtain ⟨fd, sp, hb, hs, hF⟩ := JM.law_facts (P := (PySem.Challenge.rw_joinmill_k11_blocks_of_units).prog) (w := w) (n := K11.lev) KX G hmg c (by decide +kernel) (JM.subR_rng rfl) rfl K11.ents K11.hx hlaw
    exact ⟨K, fd, sp, KX, hb, hs, hF⟩

theorem PySem.Challenge.cw_joinmill_k11_blocks_of_units_holds : PySem.Challenge.rw_joinmill_k11_blocks_of_units.Holds := by
  exact K11_holds K11.o_law
