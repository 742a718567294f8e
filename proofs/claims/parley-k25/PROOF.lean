import PyProof.Rows.All
import HandS.ForMost
import KE.KDictKeyed
import HandS.Exc
import HandS.TupAny
import HandS.TupLe
import KE.LtData
import HandS.ForExc
import HandS.IsInst
import HandS.Strs
import HandS.Deep
import KE.SortData
import PySem.Challenge.RW_parley_k25_order_of_behaviours
set_option Elab.async false
set_option linter.all false
set_option maxRecDepth 100000
set_option maxHeartbeats 0
/-! Data without a heap, and which heap objects stand for which data. -/
namespace Dt
open PySem PySem.Spec PyProof.Rows L2

/-- a value of Python's as data: c of an instance is its class's number, a field is known by its number -/
inductive D where
  | non
  | bl (b : Bool)
  | int (i : Int)
  | str (x : List Nat)
  | tup (xs : List D)
  | lst (xs : List D)
  | dct (kvs : List (D × D))
  | set (xs : List D)
  | ins (c : Nat) (fs : List (Nat × D))
  | ty (n : String)
  | cls (c : Nat)
  deriving Inhabited

/-- how far a value is owned: fz: shared, never changed again; no: nothing is known of it; adr: its object is owned, what stands there is not told;
lst c, dct c: a list, a dict that is owned here, its items (values) as c says; ins cs: an instance, its fields in order -/
inductive Sh where
  | no
  | fz
  | adr
  | lst (c : Sh)
  | dct (c : Sh)
  | ins (cs : List Sh)
  deriving Inhabited

/-- a claim: the value v stands for d, owned as sh says -/
structure Cl where
  sh : Sh
  v : V
  d : D

/-- what is fixed through a program: the written part, the world, the classes' addresses, the fields' names -/
structure Gm where
  K : PySem.W.Frag
  w : World
  cls : Nat → Addr
  fld : Nat → Str

def KTup (K : PySem.W.Frag) (a : Addr) (xs : List V) : Prop :=
  ∃ (o : Obj) (its : Array Value) (n : Nat), K.lookup a = some o ∧ o.cls = .type "tuple" ∧ o.data = .seq its n ∧ its.size ≤ sizeLine ∧ Vals xs its.toList
def KLst (K : PySem.W.Frag) (a : Addr) (xs : List V) : Prop :=
  ∃ (o : Obj) (its : Array Value) (n : Nat), K.lookup a = some o ∧ o.cls = .type "list" ∧ o.dict = none ∧ o.data = .seq its n ∧ its.size ≤ sizeLine ∧ Vals xs its.toList
def TupAt (G : Gm) (N : Addr → Prop) (H : Hp) (a : Addr) (xs : List V) : Prop := (Rd H a (.tup xs) ∧ N a) ∨ KTup G.K a xs
def LstAt (G : Gm) (N : Addr → Prop) (H : Hp) (a : Addr) (xs : List V) : Prop := (Rd H a (.lst xs) ∧ N a) ∨ KLst G.K a xs

/-! dicts and sets: by the keys, which are ints and texts, or tuples of any of these -/
def keyL : D → Option Key
  | .int i => some (.inl i)
  | .str x => some (.inr ⟨x.toArray⟩)
  | _ => none
mutual
def nkey : D → Option NestedKey
  | .non => some .none
  | .bl b => some (.num (if b = true then 1 else 0))
  | .int i => some (.num i)
  | .str x => some (.text ⟨x.toArray⟩)
  | .tup xs => match nkeys xs with
    | some ks => some (.tup ks)
    | none => none
  | _ => none
def nkeys : List D → Option (List NestedKey)
  | [] => some []
  | x :: xs => match nkey x, nkeys xs with
    | some k, some ks => some (k :: ks)
    | _, _ => none
end
/-- an entry: the key, its value, what stands under it -/
structure En where
  k : D
  kv : V
  v : V
/-- the object of a dict whose keys are tuples -/
def dctObj (w : World) (es : List En) (o : Obj) : Prop :=
  o.ExactDict ∧ ∃ (ents : Array DictEntry) (ep : Nat) (ks : List NestedKey), o.data = .dict ents ep ∧ ks.Nodup ∧
    Paired (fun (e : En × NestedKey) (x : DictEntry) => nkey e.1.k = some e.2 ∧ x.hash = e.2.hash w ∧ RelV e.1.kv x.key ∧ RelV e.1.v x.val) (es.zip ks) ents.toList ∧ es.length = ks.length
def dctHO (w : World) (a : Addr) (es : List En) : HO := .ext fun h => ∃ o, h.get? a = some o ∧ dctObj w es o
/-- o at a is a dict of the entries es -/
def DctO (G : Gm) (a : Addr) (o : HO) (es : List En) : Prop :=
  (∃ ks : List (Key × V), o = .dK ks ∧ Paired (fun (e : En) (x : Key × V) => keyL e.k = some x.1 ∧ e.kv = kV x.1 ∧ e.v = x.2) es ks) ∨
  (o = dctHO G.w a es ∧ (a == sysModules) = false ∧ es.length ≤ sizeLine ∧ ∀ e ∈ es, ∃ xs, e.k = .tup xs)

mutual
/-- v stands for d; nothing at an address outside N is looked at -/
inductive RF (G : Gm) (N : Addr → Prop) (H : Hp) : V → D → Prop
  | non : RF G N H .non .non
  | bl (b) : RF G N H (.bl b) (.bl b)
  | int (i) : RF G N H (.int i) (.int i)
  | str (x) : RF G N H (.str x) (.str x.cps.toList)
  | ty (n) : RF G N H (.ty n) (.ty n)
  | cls (c) : RF G N H (.ref (G.cls c)) (.cls c)
  | tup {a vs ds} : TupAt G N H a vs → RFs G N H vs ds → RF G N H (.ref a) (.tup ds)
  | lst {a vs ds} : LstAt G N H a vs → RFs G N H vs ds → RF G N H (.ref a) (.lst ds)
  | dct {a o es ds} : H a = some o → N a → DctO G a o es → RFs G N H (es.map En.kv) (es.map En.k) → RFs G N H (es.map En.v) ds → RF G N H (.ref a) (.dct ((es.map En.k).zip ds))
  | ins {a c dx vs ds} {ids : List Nat} : H a = some (.ins (G.cls c) dx ((ids.map G.fld).zip vs)) → N a → RFs G N H vs ds → ids.length = ds.length → RF G N H (.ref a) (.ins c (ids.zip ds))
inductive RFs (G : Gm) (N : Addr → Prop) (H : Hp) : List V → List D → Prop
  | nil : RFs G N H [] []
  | cons {v d vs ds} : RF G N H v d → RFs G N H vs ds → RFs G N H (v :: vs) (d :: ds)
end
mutual
/-- v stands for d, owned as the shape says; the owned addresses -/
inductive RT (G : Gm) (N : Addr → Prop) (H : Hp) : Sh → V → D → List Addr → Prop
  | no {v d} : RT G N H .no v d []
  | fz {v d} : RF G N H v d → RT G N H .fz v d []
  | adr {a d o} : H a = some o → RT G N H .adr (.ref a) d [a]
  | lst {a c L fp} : H a = some (.lst (L.map Cl.v)) → RTs G N H L fp → (∀ t ∈ L, t.sh = c) → RT G N H (.lst c) (.ref a) (.lst (L.map Cl.d)) (a :: fp)
  | dct {a o c es L fp} : H a = some o → DctO G a o es → RFs G N H (es.map En.kv) (es.map En.k) → RTs G N H L fp → L.map Cl.v = es.map En.v → (∀ t ∈ L, t.sh = c) → RT G N H (.dct c) (.ref a) (.dct ((es.map En.k).zip (L.map Cl.d))) (a :: fp)
  | ins {a c dx L fp} {ids : List Nat} : H a = some (.ins (G.cls c) dx ((ids.map G.fld).zip (L.map Cl.v))) → RTs G N H L fp → ids.length = L.length → RT G N H (.ins (L.map Cl.sh)) (.ref a) (.ins c (ids.zip (L.map Cl.d))) (a :: fp)
inductive RTs (G : Gm) (N : Addr → Prop) (H : Hp) : List Cl → List Addr → Prop
  | nil : RTs G N H [] []
  | cons {t L f1 f2} : RT G N H t.sh t.v t.d f1 → RTs G N H L f2 → RTs G N H (t :: L) (f1 ++ f2)
end

section
variable {G : Gm} {N N' : Addr → Prop} {H H' : Hp}
theorem Rd.mono {a : Addr} {u : HO} (r : Rd H a u) (n : N a) (e : ∀ a o, H a = some o → N a → H' a = some o) : Rd H' a u := by
  rcases r with r | ⟨o, r⟩
  · exact .inl (e _ _ r n)
  · exact .inr ⟨o, e _ _ r n⟩
theorem Rd.some {a : Addr} {u : HO} (r : Rd H a u) : ∃ o, H a = some o := by
  rcases r with r | ⟨o, r⟩
  · exact ⟨_, r⟩
  · exact ⟨_, r⟩
/-- what stands outside is kept, what was allowed stays allowed -/
structure Kp (N N' : Addr → Prop) (H H' : Hp) : Prop where
  keep : ∀ a o, H a = some o → N a → H' a = some o
  ok : ∀ a o, H a = some o → N a → N' a
theorem TupAt.mono {a xs} (k : Kp N N' H H') (h : TupAt G N H a xs) : TupAt G N' H' a xs := by
  rcases h with ⟨r, n⟩ | h
  · obtain ⟨o, e⟩ := Rd.some r
    exact .inl ⟨Rd.mono r n k.keep, k.ok a o e n⟩
  · exact .inr h
theorem LstAt.mono {a xs} (k : Kp N N' H H') (h : LstAt G N H a xs) : LstAt G N' H' a xs := by
  rcases h with ⟨r, n⟩ | h
  · obtain ⟨o, e⟩ := Rd.some r
    exact .inl ⟨Rd.mono r n k.keep, k.ok a o e n⟩
  · exact .inr h
mutual
theorem RF.mono (k : Kp N N' H H') : ∀ {v d}, RF G N H v d → RF G N' H' v d
  | _, _, .non => .non
  | _, _, .bl b => .bl b
  | _, _, .int i => .int i
  | _, _, .str x => .str x
  | _, _, .ty x => .ty x
  | _, _, .cls x => .cls x
  | _, _, .tup h r => .tup (h.mono k) (RFs.mono k r)
  | _, _, .lst h r => .lst (h.mono k) (RFs.mono k r)
  | _, _, .dct h n e r q => .dct (k.keep _ _ h n) (k.ok _ _ h n) e (RFs.mono k r) (RFs.mono k q)
  | _, _, .ins h n r e => .ins (k.keep _ _ h n) (k.ok _ _ h n) (RFs.mono k r) e
theorem RFs.mono (k : Kp N N' H H') : ∀ {vs ds}, RFs G N H vs ds → RFs G N' H' vs ds
  | _, _, .nil => .nil
  | _, _, .cons h r => .cons (RF.mono k h) (RFs.mono k r)
end
mutual
/-- .. where the owned addresses are kept too -/
theorem RT.mono (k : Kp N N' H H') : ∀ {sh v d fp}, RT G N H sh v d fp → (∀ a ∈ fp, ∀ o, H a = some o → H' a = some o) → RT G N' H' sh v d fp
  | _, _, _, _, .no, _ => .no
  | _, _, _, _, .fz h, _ => .fz (h.mono k)
  | _, _, _, _, .adr h, q => .adr (q _ (by simp) _ h)
  | _, _, _, _, .lst h r e, q => .lst (q _ (by simp) _ h) (RTs.mono k r fun a ha => q a (by simp [ha])) e
  | _, _, _, _, .dct h e rk r ev es, q => .dct (q _ (by simp) _ h) e (rk.mono k) (RTs.mono k r fun a ha => q a (by simp [ha])) ev es
  | _, _, _, _, .ins h r e, q => .ins (q _ (by simp) _ h) (RTs.mono k r fun a ha => q a (by simp [ha])) e
theorem RTs.mono (k : Kp N N' H H') : ∀ {L fp}, RTs G N H L fp → (∀ a ∈ fp, ∀ o, H a = some o → H' a = some o) → RTs G N' H' L fp
  | _, _, .nil, _ => .nil
  | _, _, .cons h r, q => .cons (RT.mono k h fun a ha => q a (by simp [ha])) (RTs.mono k r fun a ha => q a (by simp [ha]))
end
mutual
/-- owned addresses are tracked -/
theorem RT.at : ∀ {sh v d fp}, RT G N H sh v d fp → ∀ a ∈ fp, ∃ o, H a = some o
  | _, _, _, _, .no, a, h => by simp at h
  | _, _, _, _, .fz _, a, h => by simp at h
  | _, _, _, _, .adr h, a, q => by
    simp at q
    subst q
    exact ⟨_, h⟩
  | _, _, _, _, .lst h r e, a, q => by
    rcases List.mem_cons.mp q with rfl | q
    · exact ⟨_, h⟩
    · exact RTs.at r a q
  | _, _, _, _, .dct h e rk r ev es, a, q => by
    rcases List.mem_cons.mp q with rfl | q
    · exact ⟨_, h⟩
    · exact RTs.at r a q
  | _, _, _, _, .ins h r e, a, q => by
    rcases List.mem_cons.mp q with rfl | q
    · exact ⟨_, h⟩
    · exact RTs.at r a q
theorem RTs.at : ∀ {L fp}, RTs G N H L fp → ∀ a ∈ fp, ∃ o, H a = some o
  | _, _, .nil, a, h => by simp at h
  | _, _, .cons h r, a, q => by
    rcases List.mem_append.mp q with q | q
    · exact RT.at h a q
    · exact RTs.at r a q
end
end
end Dt

/-! Claims over a heap: permuted, dropped, frozen, made. -/
namespace Dt
open PySem PySem.Spec PyProof.Rows L2

/-- O: the addresses that are owned by the claims L -/
def OwnO (G : Gm) (H : Hp) (L : List Cl) (O : List Addr) : Prop := RTs G (fun a => a ∉ O) H L O ∧ O.Nodup
def Own (G : Gm) (H : Hp) (L : List Cl) : Prop := ∃ O, OwnO G H L O

section
variable {G : Gm} {N N' : Addr → Prop} {H H' : Hp}
theorem Kp.sub (h : ∀ a, N a → N' a) : Kp N N' H H := ⟨fun _ _ e _ => e, fun a _ _ n => h a n⟩
theorem Kp.same (k : Same H H') : Kp N N H H' := ⟨fun a o e _ => k a o e, fun _ _ _ n => n⟩
theorem RTs.sub (h : ∀ a, N a → N' a) {L fp} (r : RTs G N H L fp) : RTs G N' H L fp := r.mono (Kp.sub h) fun _ _ _ e => e
theorem RT.sub (h : ∀ a, N a → N' a) {sh v d fp} (r : RT G N H sh v d fp) : RT G N' H sh v d fp := r.mono (Kp.sub h) fun _ _ _ e => e
theorem RF.sub (h : ∀ a, N a → N' a) {v d} (r : RF G N H v d) : RF G N' H v d := r.mono (Kp.sub h)
theorem RFs.sub (h : ∀ a, N a → N' a) {v d} (r : RFs G N H v d) : RFs G N' H v d := r.mono (Kp.sub h)

theorem RTs.append : ∀ {L R f1 f2}, RTs G N H L f1 → RTs G N H R f2 → RTs G N H (L ++ R) (f1 ++ f2)
  | _, _, _, _, .nil, r => r
  | _, _, _, _, .cons h t, r => by rw [List.append_assoc]; exact .cons h (t.append r)
theorem RTs.split : ∀ {L R fp}, RTs G N H (L ++ R) fp → ∃ f1 f2, fp = f1 ++ f2 ∧ RTs G N H L f1 ∧ RTs G N H R f2
  | [], R, fp, r => ⟨[], fp, rfl, .nil, r⟩
  | t :: L, R, _, .cons h r => by
    obtain ⟨f1, f2, e, r1, r2⟩ := RTs.split (L := L) r
    subst e
    exact ⟨_, f2, (List.append_assoc _ _ _).symm, .cons h r1, r2⟩
theorem RTs.perm {L L' : List Cl} (p : L.Perm L') : ∀ {fp}, RTs G N H L fp → ∃ fp', RTs G N H L' fp' ∧ fp.Perm fp' := by
  induction p with
  | nil => exact fun r => ⟨_, r, .refl _⟩
  | cons t _ ih =>
    intro fp r
    cases r with
    | cons h r =>
      obtain ⟨fp', r', q⟩ := ih r
      exact ⟨_, .cons h r', q.append_left _⟩
  | swap t u L =>
    intro fp r
    cases r with
    | cons h r =>
      cases r with
      | cons h' r =>
        refine ⟨_, .cons h' (.cons h r), ?_⟩
        rw [← List.append_assoc, ← List.append_assoc]
        exact List.perm_append_comm.append_right _
  | trans _ _ ih1 ih2 =>
    intro fp r
    obtain ⟨f1, r1, q1⟩ := ih1 r
    obtain ⟨f2, r2, q2⟩ := ih2 r1
    exact ⟨f2, r2, q1.trans q2⟩
theorem OwnO.perm {L L' : List Cl} {O} (p : L.Perm L') (h : OwnO G H L O) : ∃ O', OwnO G H L' O' ∧ O.Perm O' := by
  obtain ⟨r, nd⟩ := h
  obtain ⟨O', r', q⟩ := r.perm p
  exact ⟨O', ⟨r'.sub fun a ha hb => ha (q.mem_iff.mpr hb), q.nodup nd⟩, q⟩
theorem Own.perm {L L' : List Cl} (p : L.Perm L') (h : Own G H L) : Own G H L' := let ⟨_, h⟩ := h; let ⟨O', h', _⟩ := h.perm p; ⟨O', h'⟩
theorem Own.tail {t : Cl} {L : List Cl} (h : Own G H (t :: L)) : Own G H L := by
  obtain ⟨O, r, nd⟩ := h
  cases r with
  | cons h r =>
    rw [List.nodup_append] at nd
    exact ⟨_, r.sub fun a ha hb => ha (List.mem_append_right _ hb), nd.2.1⟩
theorem Own.drop {L R : List Cl} (h : Own G H (L ++ R)) : Own G H R := by
  induction L with
  | nil => exact h
  | cons t L ih => exact ih (Own.tail h)
/-- the claims are kept where all that is tracked is kept -/
theorem OwnO.same {L O} (k : Same H H') (h : OwnO G H L O) : OwnO G H' L O := ⟨h.1.mono (Kp.same k) fun a _ o e => k a o e, h.2⟩
theorem Own.same {L} (k : Same H H') (h : Own G H L) : Own G H' L := let ⟨O, h⟩ := h; ⟨O, h.same k⟩
theorem OwnO.cons {L O v d} (r : RF G (fun a => a ∉ O) H v d) (h : OwnO G H L O) : OwnO G H (⟨.fz, v, d⟩ :: L) O := ⟨.cons (t := ⟨.fz, v, d⟩) (f1 := []) (.fz r) h.1, h.2⟩
theorem OwnO.head {L O v d} (h : OwnO G H (⟨.fz, v, d⟩ :: L) O) : RF G (fun a => a ∉ O) H v d ∧ OwnO G H L O := by
  obtain ⟨r, nd⟩ := h
  cases r with
  | cons h r => cases h with
    | fz h => exact ⟨h, r, nd⟩
theorem Own.dup {L v d} (h : Own G H (⟨.fz, v, d⟩ :: L)) : Own G H (⟨.fz, v, d⟩ :: ⟨.fz, v, d⟩ :: L) := let ⟨O, h⟩ := h; ⟨O, h.cons h.head.1⟩
theorem Own.nonC {L} (h : Own G H L) : Own G H (⟨.fz, .non, .non⟩ :: L) := let ⟨O, h⟩ := h; ⟨O, h.cons .non⟩
theorem Own.blC {L} (b : Bool) (h : Own G H L) : Own G H (⟨.fz, .bl b, .bl b⟩ :: L) := let ⟨O, h⟩ := h; ⟨O, h.cons (.bl b)⟩
theorem Own.intC {L} (i : Int) (h : Own G H L) : Own G H (⟨.fz, .int i, .int i⟩ :: L) := let ⟨O, h⟩ := h; ⟨O, h.cons (.int i)⟩
theorem Own.strC {L} (x : Str) (h : Own G H L) : Own G H (⟨.fz, .str x, .str x.cps.toList⟩ :: L) := let ⟨O, h⟩ := h; ⟨O, h.cons (.str x)⟩
theorem Own.noC {L v d} (h : Own G H L) : Own G H (⟨.no, v, d⟩ :: L) := let ⟨O, h⟩ := h; ⟨O, .cons (t := ⟨.no, v, d⟩) (f1 := []) .no h.1, h.2⟩

/-! whole shapes: nothing is taken out -/
mutual
def Sh.whole : Sh → Bool
  | .fz => true
  | .lst c => c.whole
  | .dct c => c.whole
  | .ins cs => wholes cs
  | _ => false
def wholes : List Sh → Bool
  | [] => true
  | c :: cs => c.whole && wholes cs
end
theorem wholes_all : ∀ {L : List Cl}, wholes (L.map Cl.sh) = true → ∀ t ∈ L, t.sh.whole = true
  | [], _, t, h => by simp at h
  | u :: L, w, t, h => by
    simp only [List.map_cons, wholes, Bool.and_eq_true] at w
    rcases List.mem_cons.mp h with rfl | h
    · exact w.1
    · exact wholes_all w.2 t h
mutual
theorem RT.freezeN (hN : ∀ a, N a → N' a) : ∀ {sh v d fp}, RT G N H sh v d fp → sh.whole = true → (∀ a ∈ fp, N' a) → RF G N' H v d
  | _, _, _, _, .no, w, _ => by simp [Sh.whole] at w
  | _, _, _, _, .fz h, _, _ => h.sub hN
  | _, _, _, _, .lst h r e, w, q => .lst (.inl ⟨.inl h, q _ (by simp)⟩) (RTs.freezeN hN r (fun t ht => by rw [e t ht]; simpa [Sh.whole] using w) fun a ha => q a (by simp [ha]))
  | _, _, _, _, .adr h, w, _ => by simp [Sh.whole] at w
  | _, _, _, _, .dct h e rk r ev es, w, q => .dct h (q _ (by simp)) e (rk.sub hN) (by rw [← ev]; exact RTs.freezeN hN r (fun t ht => by rw [es t ht]; simpa [Sh.whole] using w) fun a ha => q a (by simp [ha]))
  | _, _, _, _, .ins h r e, w, q => .ins h (q _ (by simp)) (RTs.freezeN hN r (wholes_all (by simpa [Sh.whole] using w)) fun a ha => q a (by simp [ha])) (by simpa using e)
theorem RTs.freezeN (hN : ∀ a, N a → N' a) : ∀ {L fp}, RTs G N H L fp → (∀ t ∈ L, t.sh.whole = true) → (∀ a ∈ fp, N' a) → RFs G N' H (L.map Cl.v) (L.map Cl.d)
  | _, _, .nil, _, _ => .nil
  | _, _, .cons h r, w, q => .cons (RT.freezeN hN h (w _ (by simp)) fun a ha => q a (by simp [ha])) (RTs.freezeN hN r (fun t ht => w t (by simp [ht])) fun a ha => q a (by simp [ha]))
end
theorem OwnO.freeze {sh v d L O} (w : sh.whole = true) (h : OwnO G H (⟨sh, v, d⟩ :: L) O) : ∃ O', OwnO G H (⟨.fz, v, d⟩ :: L) O' ∧ ∀ a, a ∈ O' → a ∈ O := by
  obtain ⟨r, nd⟩ := h
  cases r with
  | @cons _ _ f1 f2 h r =>
    have q := (List.nodup_append.mp nd)
    refine ⟨f2, ⟨.cons (t := ⟨.fz, v, d⟩) (f1 := []) (.fz (h.freezeN (fun a ha hb => ha (List.mem_append_right _ hb)) w fun a ha hb => q.2.2 a ha a hb rfl)) (r.sub fun a ha hb => ha (List.mem_append_right _ hb)), q.2.1⟩, fun a ha => List.mem_append_right _ ha⟩
theorem Own.freeze {sh v d L} (w : sh.whole = true) (h : Own G H (⟨sh, v, d⟩ :: L)) : Own G H (⟨.fz, v, d⟩ :: L) := let ⟨_, h⟩ := h; let ⟨O', h', _⟩ := h.freeze w; ⟨O', h'⟩
theorem Own.freezeAll {A L} (w : ∀ t ∈ A, t.sh.whole = true) (h : Own G H (A ++ L)) : Own G H (A.map (fun t => ⟨.fz, t.v, t.d⟩) ++ L) := by
  induction A generalizing L with
  | nil => exact h
  | cons t A ih =>
    have h1 : Own G H (⟨.fz, t.v, t.d⟩ :: (A ++ L)) := Own.freeze (w t (by simp)) h
    have h2 : Own G H (A ++ (⟨.fz, t.v, t.d⟩ :: L)) := h1.perm List.perm_middle.symm
    exact (ih (fun t ht => w t (by simp [ht])) h2).perm List.perm_middle
theorem RTs.fzs : ∀ {L : List Cl} {fp}, RTs G N H L fp → (∀ t ∈ L, t.sh = .fz) → fp = [] ∧ RFs G N H (L.map Cl.v) (L.map Cl.d)
  | _, _, .nil, _ => ⟨rfl, .nil⟩
  | t :: L, _, .cons h r, w => by
    obtain ⟨e, q⟩ := RTs.fzs r fun t ht => w t (by simp [ht])
    have et := w t (by simp)
    obtain ⟨ts, tv, td⟩ := t
    simp only at et h
    subst et
    cases h with
    | fz h => exact ⟨by simp [e], .cons h q⟩
theorem RTs.ofs : ∀ {L : List Cl}, RFs G N H (L.map Cl.v) (L.map Cl.d) → (∀ t ∈ L, t.sh = .fz) → RTs G N H L []
  | [], _, _ => .nil
  | t :: L, r, w => by
    have et := w t (by simp)
    obtain ⟨ts, tv, td⟩ := t
    simp only at et
    subst et
    cases r with
    | cons h r => exact .cons (f1 := []) (.fz h) (RTs.ofs r fun t ht => w t (by simp [ht]))
/-- frozen claims at the head: their facts -/
theorem OwnO.heads {A L O} (w : ∀ t ∈ A, t.sh = .fz) (h : OwnO G H (A ++ L) O) : RFs G (fun a => a ∉ O) H (A.map Cl.v) (A.map Cl.d) ∧ OwnO G H L O := by
  obtain ⟨r, nd⟩ := h
  obtain ⟨f1, f2, e, r1, r2⟩ := r.split
  obtain ⟨e1, q⟩ := r1.fzs w
  subst e1
  have e : O = f2 := e
  subst e
  exact ⟨q, r2, nd⟩

/-! a new object -/
theorem upd_new {p : Addr} {o : HO} (h : H p = none) : Same H (upd H p o) := fun b x e => by rw [upd_ne (ne_of_none e h)]; exact e
theorem OwnO.notin {L O} (h : OwnO G H L O) {p : Addr} (n : H p = none) : p ∉ O := fun hp => by
  obtain ⟨xs, e⟩ := h.1.at p hp
  rw [n] at e; cases e
/-- a new list, owned: its items are taken in -/
theorem Own.newLst {A L p c} (w : ∀ t ∈ A, t.sh = c) (h : Own G H (A ++ L)) (hp : H p = none) : Own G (upd H p (.lst (A.map Cl.v))) (⟨.lst c, .ref p, .lst (A.map Cl.d)⟩ :: L) := by
  obtain ⟨O, h⟩ := h
  have np := h.notin hp
  obtain ⟨r, nd⟩ := h
  obtain ⟨f1, f2, e, r1, r2⟩ := r.split
  subst e
  have k : Kp (fun a => a ∉ f1 ++ f2) (fun a => a ∉ (p :: f1) ++ f2) H (upd H p (.lst (A.map Cl.v))) := ⟨fun a o e _ => upd_new hp a o e, fun a o e n => by
    simp only [List.cons_append, List.mem_cons, not_or]
    exact ⟨ne_of_none e hp, n⟩⟩
  refine ⟨(p :: f1) ++ f2, .cons (t := ⟨.lst c, .ref p, .lst (A.map Cl.d)⟩) (.lst upd_same (r1.mono k fun a _ o e => upd_new hp a o e) w) (r2.mono k fun a _ o e => upd_new hp a o e), ?_⟩
  exact List.nodup_cons.mpr ⟨np, nd⟩
theorem OwnO.newTup {L O p vs ds} (r : RFs G (fun a => a ∉ O) H vs ds) (h : OwnO G H L O) (hp : H p = none) : OwnO G (upd H p (.tup vs)) (⟨.fz, .ref p, .tup ds⟩ :: L) O :=
  (h.same (upd_new hp)).cons (.tup (.inl ⟨.inl upd_same, h.notin hp⟩) (r.mono (Kp.same (upd_new hp))))
theorem OwnO.newFLst {L O p vs ds} (r : RFs G (fun a => a ∉ O) H vs ds) (h : OwnO G H L O) (hp : H p = none) : OwnO G (upd H p (.lst vs)) (⟨.fz, .ref p, .lst ds⟩ :: L) O :=
  (h.same (upd_new hp)).cons (.lst (.inl ⟨.inl upd_same, h.notin hp⟩) (r.mono (Kp.same (upd_new hp))))
theorem RFs.cls : ∀ {vs : List V} {ds : List D}, RFs G N H vs ds → ∃ A : List Cl, (∀ t ∈ A, t.sh = .fz) ∧ A.map Cl.v = vs ∧ A.map Cl.d = ds
  | _, _, .nil => ⟨[], by simp, rfl, rfl⟩
  | v :: _, d :: _, .cons _ r => by
    obtain ⟨A, w, e1, e2⟩ := RFs.cls r
    exact ⟨⟨.fz, v, d⟩ :: A, fun t ht => by
      rcases List.mem_cons.mp ht with rfl | ht
      · rfl
      · exact w t ht, by simp [e1], by simp [e2]⟩
/-- a new list of frozen items, owned -/
theorem OwnO.newLst {L O p vs ds} (r : RFs G (fun a => a ∉ O) H vs ds) (h : OwnO G H L O) (hp : H p = none) : Own G (upd H p (.lst vs)) (⟨.lst .fz, .ref p, .lst ds⟩ :: L) := by
  obtain ⟨A, w, e1, e2⟩ := r.cls
  have h2 : Own G H (A ++ L) := ⟨O, by
    have := (RTs.ofs (L := A) (by rw [e1, e2]; exact r) w).append h.1
    exact ⟨by simpa using this, h.2⟩⟩
  have := Own.newLst w h2 hp
  rw [e1, e2] at this
  exact this

/-! what can be read: the thing itself, its items frozen -/
inductive RX (G : Gm) (N : Addr → Prop) (H : Hp) : V → D → Prop
  | fz {v d} : RF G N H v d → RX G N H v d
  | lst {a vs ds} : H a = some (.lst vs) → RFs G N H vs ds → RX G N H (.ref a) (.lst ds)
  | dct {a o es ds} : H a = some o → DctO G a o es → RFs G N H (es.map En.kv) (es.map En.k) → RFs G N H (es.map En.v) ds → RX G N H (.ref a) (.dct ((es.map En.k).zip ds))
theorem RFs.length : ∀ {vs ds}, RFs G N H vs ds → vs.length = ds.length
  | _, _, .nil => rfl
  | _, _, .cons _ r => by simp [r.length]
theorem RFs.get : ∀ {vs ds}, RFs G N H vs ds → ∀ {i : Nat} {d : D}, ds[i]? = some d → ∃ v, vs[i]? = some v ∧ RF G N H v d
  | _, _, .nil, _, _, e => by simp at e
  | _, _, .cons h r, 0, _, e => by simp at e; subst e; exact ⟨_, rfl, h⟩
  | _, _, .cons h r, i + 1, _, e => by simpa using r.get (by simpa using e)
theorem RFs.append : ∀ {vs ds ws es}, RFs G N H vs ds → RFs G N H ws es → RFs G N H (vs ++ ws) (ds ++ es)
  | _, _, _, _, .nil, r => r
  | _, _, _, _, .cons h t, r => .cons h (t.append r)
theorem RFs.take : ∀ {vs ds} (n : Nat), RFs G N H vs ds → RFs G N H (vs.take n) (ds.take n)
  | _, _, 0, _ => by simp; exact .nil
  | _, _, n + 1, .nil => by simp; exact .nil
  | _, _, n + 1, .cons h r => .cons h (r.take n)
theorem RFs.drop : ∀ {vs ds} (n : Nat), RFs G N H vs ds → RFs G N H (vs.drop n) (ds.drop n)
  | _, _, 0, r => r
  | _, _, n + 1, .nil => by simp; exact .nil
  | _, _, n + 1, .cons h r => r.drop n
theorem RFs.reverse : ∀ {vs ds}, RFs G N H vs ds → RFs G N H vs.reverse ds.reverse
  | _, _, .nil => .nil
  | _, _, .cons h r => by simpa using r.reverse.append (.cons h .nil)
theorem RX.lst_at {v ds} (h : RX G N H v (.lst ds)) : ∃ a vs, v = .ref a ∧ SqL G.K H a vs ∧ RFs G N H vs ds := by
  cases h with
  | fz h => cases h with
    | lst h r => exact ⟨_, _, rfl, h.elim (fun h => .inl h.1) .inr, r⟩
  | lst h r => exact ⟨_, _, rfl, .inl (.inl h), r⟩
theorem RX.tup_at {v ds} (h : RX G N H v (.tup ds)) : ∃ a vs, v = .ref a ∧ SqT G.K H a vs ∧ RFs G N H vs ds := by
  cases h with
  | fz h => cases h with
    | tup h r => exact ⟨_, _, rfl, h.elim (fun h => .inl h.1) .inr, r⟩
theorem RX.int_at {v i} (h : RX G N H v (.int i)) : v = .int i := by cases h with | fz h => cases h; rfl
theorem RX.bl_at {v i} (h : RX G N H v (.bl i)) : v = .bl i := by cases h with | fz h => cases h; rfl
theorem RX.non_at {v} (h : RX G N H v .non) : v = .non := by cases h with | fz h => cases h; rfl
theorem RX.str_at {v x} (h : RX G N H v (.str x)) : v = .str ⟨x.toArray⟩ := by cases h with | fz h => cases h; simp
theorem RX.same {v d} (k : Same H H') (h : RX G N H v d) : RX G N H' v d := by
  cases h with
  | fz h => exact .fz (h.mono (Kp.same k))
  | lst h r => exact .lst (k _ _ h) (r.mono (Kp.same k))
  | dct h e rk r => exact .dct (k _ _ h) e (rk.mono (Kp.same k)) (r.mono (Kp.same k))
/-- shapes whose things can be read so -/
def Sh.flat : Sh → Bool
  | .fz => true
  | .lst .fz => true
  | .dct .fz => true
  | _ => false
theorem RT.rx {sh v d fp} (h : RT G N H sh v d fp) (w : sh.flat = true) : RX G N H v d := by
  cases h with
  | no => simp [Sh.flat] at w
  | adr => simp [Sh.flat] at w
  | ins => simp [Sh.flat] at w
  | fz h => exact .fz h
  | @lst a c L fp h r e =>
    have ec : c = .fz := by
      cases c <;> simp [Sh.flat] at w ⊢
    subst ec
    obtain ⟨_, q⟩ := r.fzs e
    exact .lst h q
  | @dct a o c es L fp h e rk r ev ew =>
    have ec : c = .fz := by
      cases c <;> simp [Sh.flat] at w ⊢
    subst ec
    obtain ⟨_, q⟩ := r.fzs ew
    exact .dct h e rk (by rw [← ev]; exact q)
/-! a list that is owned, opened: its address, its items -/
theorem Own.openLst {a c ds L} (h : Own G H (⟨.lst c, .ref a, .lst ds⟩ :: L)) : ∃ A : List Cl, ds = A.map Cl.d ∧ (∀ t ∈ A, t.sh = c) ∧ H a = some (.lst (A.map Cl.v)) ∧ Own G H (⟨.adr, .ref a, .non⟩ :: (A ++ L)) := by
  obtain ⟨O, r, nd⟩ := h
  cases r with
  | cons h r => cases h with
    | lst h q w => exact ⟨_, rfl, w, h, _, .cons (t := ⟨.adr, .ref a, .non⟩) (f1 := [a]) (.adr h) (q.append r), nd⟩
theorem Own.closeLst {a c} {A L : List Cl} (w : ∀ t ∈ A, t.sh = c) (e : H a = some (.lst (A.map Cl.v))) (h : Own G H (⟨.adr, .ref a, .non⟩ :: (A ++ L))) : Own G H (⟨.lst c, .ref a, .lst (A.map Cl.d)⟩ :: L) := by
  obtain ⟨O, r, nd⟩ := h
  cases r with
  | cons h r =>
    obtain ⟨f1, f2, ef, r1, r2⟩ := r.split
    subst ef
    cases h with
    | adr h => exact ⟨_, .cons (t := ⟨.lst c, .ref a, .lst (A.map Cl.d)⟩) (f1 := a :: f1) (f2 := f2) (.lst e r1 w) r2, nd⟩
theorem ne_in {L R : List Addr} {a : Addr} (nd : ([a] ++ R).Nodup) {b : Addr} (h : b ∈ R) : b ≠ a := fun e => by
  subst e
  exact (List.nodup_cons.mp nd).1 h
/-- what stands at an owned address is changed -/
theorem Own.write {a o L} (h : Own G H (⟨.adr, .ref a, .non⟩ :: L)) : Own G (upd H a o) (⟨.adr, .ref a, .non⟩ :: L) := by
  obtain ⟨O, r, nd⟩ := h
  cases r with
  | @cons _ _ f1 f2 h r => cases h with
    | adr h =>
      have k : Kp (fun b => b ∉ [a] ++ f2) (fun b => b ∉ [a] ++ f2) H (upd H a o) := ⟨fun b u e n => by
        rw [upd_ne (fun z => n (by simp [z]))]
        exact e, fun _ _ _ n => n⟩
      exact ⟨_, .cons (t := ⟨.adr, .ref a, .non⟩) (f1 := [a]) (.adr upd_same) (r.mono k fun b hb u e => by
        rw [upd_ne (ne_in (L := []) nd hb)]
        exact e), nd⟩
theorem Own.adrAt {a L} (h : Own G H (⟨.adr, .ref a, .non⟩ :: L)) : ∃ o, H a = some o := by
  obtain ⟨O, r, nd⟩ := h
  cases r with
  | cons h r => cases h with
    | adr h => exact ⟨_, h⟩
/-- an item behind an owned list -/
theorem Own.append {a c ds v d L} (h : Own G H (⟨.lst c, .ref a, .lst ds⟩ :: ⟨c, v, d⟩ :: L)) : ∃ vs, H a = some (.lst vs) ∧ vs.length = ds.length ∧ Own G (upd H a (.lst (vs ++ [v]))) (⟨.lst c, .ref a, .lst (ds ++ [d])⟩ :: L) := by
  obtain ⟨A, e, w, ha, o⟩ := h.openLst
  subst e
  refine ⟨_, ha, by simp, ?_⟩
  have o2 : Own G (upd H a (.lst ((A ++ [(⟨c, v, d⟩ : Cl)]).map Cl.v))) (⟨.adr, .ref a, .non⟩ :: ((A ++ [(⟨c, v, d⟩ : Cl)]) ++ L)) := by
    refine Own.write ?_
    simpa using o
  have := o2.closeLst (c := c) (fun t ht => by
    rcases List.mem_append.mp ht with ht | ht
    · exact w t ht
    · rw [List.mem_singleton.mp ht]) upd_same
  simpa using this
end
end Dt

/-! The value semantics: states, results, and the reading of an expression by it. -/
namespace Dt
abbrev Sg := L2.St
open PySem PySem.Spec PyProof.Rows L2

/-- a slot: what stands there, and how far it is owned -/
abbrev Slot := Option (Sh × D)
/-- an exception: its class's number, its field's value -/
structure Exc where
  c : Nat
  arg : Option D
/-- a step of a path into a thing -/
inductive Stp where
  | fld (f : Nat)
  | ix (i : Nat)
/-- what an expression gives: a thing, or a place whose thing is looked at later -/
inductive Rv where
  | tmp (sh : Sh) (d : D)
  | ref (i : Nat) (p : List Stp)
abbrev M (α : Type) := List Slot → Option (Except Exc α × List Slot)
def M.ret {α} (a : α) : M α := fun S => some (.ok a, S)
def M.fail {α} : M α := fun _ => none
def M.bnd {α β} (m : M α) (k : α → M β) : M β := fun S => match m S with
  | some (.ok a, S') => k a S'
  | some (.error e, S') => some (.error e, S')
  | none => none
/-- a partial value -/
def M.opt {α} (o : Option α) : M α := fun S => match o with
  | some a => some (.ok a, S)
  | none => none

/-- the claims of a state -/
def cl : List Slot → Sg → List Cl
  | some (sh, d) :: S, some v :: σ => ⟨sh, v, d⟩ :: cl S σ
  | _ :: S, _ :: σ => cl S σ
  | _, _ => []
/-- what is claimed is there -/
def Ag : List Slot → Sg → Prop
  | [], [] => True
  | none :: S, _ :: σ => Ag S σ
  | some _ :: S, some _ :: σ => Ag S σ
  | _, _ => False
theorem Ag.length : ∀ {S σ}, Ag S σ → S.length = σ.length
  | [], [], _ => rfl
  | none :: S, _ :: σ, h => by simp [Ag.length (S := S) (σ := σ) h]
  | some _ :: S, some _ :: σ, h => by simp [Ag.length (S := S) (σ := σ) h]
  | some _ :: S, none :: σ, h => h.elim
  | [], _ :: _, h => h.elim
  | none :: _, [], h => h.elim
  | some _ :: _, [], h => h.elim
theorem Ag.get : ∀ {S : List Slot} {σ : Sg}, Ag S σ → ∀ {i : Nat} {sd : Sh × D}, S[i]? = some (some sd) → ∃ v, σ[i]? = some (some v)
  | none :: S, _ :: σ, h, i + 1, sd, e => by simpa using Ag.get (S := S) (σ := σ) h (by simpa using e)
  | some _ :: S, some v :: σ, h, 0, sd, e => ⟨v, rfl⟩
  | some _ :: S, some _ :: σ, h, i + 1, sd, e => by simpa using Ag.get (S := S) (σ := σ) h (by simpa using e)
  | some _ :: S, none :: σ, h, _, _, _ => h.elim
  | [], _, _, _, _, e => by simp at e
  | none :: _, [], h, _, _, _ => h.elim
  | some _ :: _, [], h, _, _, _ => h.elim
  | none :: S, _ :: σ, h, 0, sd, e => by simp at e
/-- a slot is claimed otherwise -/
theorem Ag.set : ∀ {S : List Slot} {σ : Sg}, Ag S σ → ∀ {i : Nat} {sd : Sh × D} {v}, σ[i]? = some (some v) → Ag (S.set i (some sd)) σ
  | [], [], _, _, _, _, e => by simp at e
  | none :: S, some _ :: σ, h, 0, _, _, _ => h
  | none :: S, none :: σ, h, 0, _, _, e => by simp at e
  | none :: S, _ :: σ, h, i + 1, sd, v, e => Ag.set (S := S) (σ := σ) h (sd := sd) (v := v) (by simpa using e)
  | some _ :: S, some _ :: σ, h, 0, _, _, _ => h
  | some _ :: S, some _ :: σ, h, i + 1, sd, v, e => Ag.set (S := S) (σ := σ) h (sd := sd) (v := v) (by simpa using e)
  | some _ :: S, none :: σ, h, _, _, _, _ => h.elim
  | [], _ :: _, h, _, _, _, _ => h.elim
  | none :: _, [], h, _, _, _, _ => h.elim
  | some _ :: _, [], h, _, _, _, _ => h.elim
theorem Ag.unset : ∀ {S : List Slot} {σ : Sg}, Ag S σ → ∀ {i : Nat}, Ag (S.set i none) σ
  | [], [], _, _ => trivial
  | none :: S, _ :: σ, h, 0 => h
  | none :: S, _ :: σ, h, i + 1 => Ag.unset (S := S) (σ := σ) h
  | some _ :: S, some _ :: σ, h, 0 => h
  | some _ :: S, some _ :: σ, h, i + 1 => Ag.unset (S := S) (σ := σ) h
  | some _ :: S, none :: σ, h, _ => h.elim
  | [], _ :: _, h, _ => h.elim
  | none :: _, [], h, _ => h.elim
  | some _ :: _, [], h, _ => h.elim
/-- a name is stored -/
theorem Ag.store : ∀ {S : List Slot} {σ : Sg}, Ag S σ → ∀ {i : Nat} {sd : Slot} {v}, Ag (S.set i sd) (σ.set i (some v))
  | [], [], _, _, _, _ => trivial
  | none :: S, _ :: σ, h, 0, none, _ => h
  | none :: S, _ :: σ, h, 0, some _, _ => h
  | none :: S, _ :: σ, h, i + 1, _, _ => Ag.store (S := S) (σ := σ) h
  | some _ :: S, some _ :: σ, h, 0, none, _ => h
  | some _ :: S, some _ :: σ, h, 0, some _, _ => h
  | some _ :: S, some _ :: σ, h, i + 1, _, _ => Ag.store (S := S) (σ := σ) h
  | some _ :: S, none :: σ, h, _, _, _ => h.elim
  | [], _ :: _, h, _, _, _ => h.elim
  | none :: _, [], h, _, _, _ => h.elim
  | some _ :: _, [], h, _, _, _ => h.elim
/-- a slot's claim, by itself -/
theorem cl_get : ∀ {S : List Slot} {σ : Sg} {i : Nat} {sh d v}, S[i]? = some (some (sh, d)) → σ[i]? = some (some v) → (cl S σ).Perm (⟨sh, v, d⟩ :: cl (S.set i none) σ)
  | some (sh, d) :: S, some v :: σ, 0, _, _, _, e1, e2 => by
    simp at e1 e2
    obtain ⟨rfl, rfl⟩ := e1
    subst e2
    exact .refl _
  | none :: S, _ :: σ, i + 1, sh, d, v, e1, e2 => by
    have := cl_get (S := S) (σ := σ) (i := i) (sh := sh) (d := d) (v := v) (by simpa using e1) (by simpa using e2)
    simpa [cl] using this
  | some (sh', d') :: S, some v' :: σ, i + 1, sh, d, v, e1, e2 => by
    have := cl_get (S := S) (σ := σ) (i := i) (sh := sh) (d := d) (v := v) (by simpa using e1) (by simpa using e2)
    simp only [cl, List.set_cons_succ]
    exact (this.cons _).trans (List.Perm.swap _ _ _)
  | some (sh', d') :: S, none :: σ, i + 1, sh, d, v, e1, e2 => by
    have := cl_get (S := S) (σ := σ) (i := i) (sh := sh) (d := d) (v := v) (by simpa using e1) (by simpa using e2)
    simpa [cl] using this
  | [], _, _, _, _, _, e, _ => by simp at e
  | _ :: _, [], _, _, _, _, _, e => by simp at e
  | none :: _, _ :: _, 0, _, _, _, e, _ => by simp at e
  | some _ :: _, none :: _, 0, _, _, _, _, e => by simp at e
theorem cl_set : ∀ {S : List Slot} {σ : Sg} {i : Nat} {sh d v}, S.length = σ.length → σ[i]? = some (some v) → (cl (S.set i (some (sh, d))) σ).Perm (⟨sh, v, d⟩ :: cl (S.set i none) σ) := fun {S σ i sh d v} hl e => by
  have hi : i < S.length := by rw [hl]; exact (List.getElem?_eq_some_iff.mp e).1
  have := cl_get (S := S.set i (some (sh, d))) (σ := σ) (i := i) (sh := sh) (d := d) (v := v) (by simp [hi]) e
  simpa using this
theorem cl_none_store : ∀ {S : List Slot} {σ : Sg} {i : Nat} {v}, cl (S.set i none) (σ.set i v) = cl (S.set i none) σ
  | [], _, _, _ => by simp [cl]
  | _ :: _, [], _, _ => by simp [cl]
  | x :: S, y :: σ, 0, v => by simp [cl]
  | none :: S, y :: σ, i + 1, v => by simpa [cl] using cl_none_store (S := S) (σ := σ) (i := i) (v := v)
  | some sd :: S, some y :: σ, i + 1, v => by simpa [cl] using cl_none_store (S := S) (σ := σ) (i := i) (v := v)
  | some sd :: S, none :: σ, i + 1, v => by simpa [cl] using cl_none_store (S := S) (σ := σ) (i := i) (v := v)
theorem cl_unset_sub : ∀ {S : List Slot} {σ : Sg} {i : Nat}, ∃ A, (cl S σ).Perm (A ++ cl (S.set i none) σ)
  | [], _, _ => ⟨[], by simp⟩
  | _ :: _, [], _ => ⟨[], by simp [cl]⟩
  | none :: S, y :: σ, 0 => ⟨[], by simp [cl]⟩
  | some (sh, d) :: S, some v :: σ, 0 => ⟨[⟨sh, v, d⟩], by simp [cl]⟩
  | some (sh, d) :: S, none :: σ, 0 => ⟨[], by simp [cl]⟩
  | none :: S, y :: σ, i + 1 => by
    obtain ⟨A, p⟩ := cl_unset_sub (S := S) (σ := σ) (i := i)
    exact ⟨A, by simpa [cl] using p⟩
  | some (sh, d) :: S, none :: σ, i + 1 => by
    obtain ⟨A, p⟩ := cl_unset_sub (S := S) (σ := σ) (i := i)
    exact ⟨A, by simpa [cl] using p⟩
  | some (sh, d) :: S, some v :: σ, i + 1 => by
    obtain ⟨A, p⟩ := cl_unset_sub (S := S) (σ := σ) (i := i)
    refine ⟨A, ?_⟩
    simp only [cl, List.set_cons_succ]
    exact (p.cons _).trans List.perm_middle.symm
/-- a name is stored: its claim is new, the old one is dropped -/
theorem Own.store {G H S σ i sh v d T} (ag : Ag S σ) (hi : i < S.length) (h : Own G H (⟨sh, v, d⟩ :: (cl S σ ++ T))) : Own G H (cl (S.set i (some (sh, d))) (σ.set i (some v)) ++ T) := by
  obtain ⟨A, p⟩ := cl_unset_sub (S := S) (σ := σ) (i := i)
  have h1 : Own G H (A ++ (⟨sh, v, d⟩ :: (cl (S.set i none) σ ++ T))) := h.perm (((p.append_right T).cons _).trans (by
    rw [List.append_assoc]
    exact List.perm_middle.symm))
  refine (Own.drop h1).perm ?_
  have hs : (σ.set i (some v))[i]? = some (some v) := by
    rw [List.getElem?_set_self (by rw [← ag.length]; exact hi)]
  have q := cl_set (S := S) (σ := σ.set i (some v)) (i := i) (sh := sh) (d := d) (v := v) (by rw [ag.length]; simp) hs
  rw [cl_none_store] at q
  exact (q.append_right T).symm

/-! places -/
/-- from v0 along the path stands v -/
def PathV (G : Gm) (H : Hp) : V → List Stp → V → Prop
  | v0, [], v => v = v0
  | v0, .fld f :: p, v => ∃ a C dx fs w, v0 = .ref a ∧ H a = some (.ins C dx fs) ∧ fs.lookup (G.fld f) = some w ∧ PathV G H w p v
  | v0, .ix i :: p, v => ∃ a vs w, v0 = .ref a ∧ H a = some (.lst vs) ∧ vs[i]? = some w ∧ PathV G H w p v
theorem PathV.same {G H H'} (k : Same H H') : ∀ {p v0 v}, PathV G H v0 p v → PathV G H' v0 p v
  | [], _, _, h => h
  | .fld f :: p, _, _, ⟨a, C, dx, fs, w, e, h, l, q⟩ => ⟨a, C, dx, fs, w, e, k _ _ h, l, q.same k⟩
  | .ix i :: p, _, _, ⟨a, vs, w, e, h, l, q⟩ => ⟨a, vs, w, e, k _ _ h, l, q.same k⟩
/-- what stands along the path -/
def pathD : Sh × D → List Stp → Option (Sh × D)
  | sd, [] => some sd
  | (.lst c, .lst ds), .ix i :: p => match ds[i]? with
    | some d => pathD (c, d) p
    | none => none
  | _, _ => none
def Rv.cls : Rv → V → List Cl
  | .tmp sh d, v => [⟨sh, v, d⟩]
  | .ref _ _, _ => []
def Rv.ok (G : Gm) (σ : Sg) (H : Hp) : Rv → V → Prop
  | .tmp _ _, _ => True
  | .ref i p, v => ∃ v0, σ[i]? = some (some v0) ∧ PathV G H v0 p v
/-- it still holds behind an evaluation; q: which left all as it was -/
def Rv.keeps (q : Bool) : Rv → Bool
  | .tmp _ _ => true
  | .ref _ [] => true
  | .ref _ _ => q
def Rv.see (S : List Slot) : Rv → Option (Sh × D)
  | .tmp sh d => some (sh, d)
  | .ref i p => match S[i]? with
    | some (some sd) => pathD sd p
    | _ => none
theorem Rv.ok.keeps {G σ H H'} {q : Bool} : ∀ {r : Rv} {v}, r.ok G σ H v → r.keeps q = true → (q = true → Same H H') → r.ok G σ H' v
  | .tmp _ _, _, _, _, _ => trivial
  | .ref i [], _, ⟨v0, e, h⟩, _, _ => ⟨v0, e, h⟩
  | .ref i (_ :: _), _, ⟨v0, e, h⟩, k, f => ⟨v0, e, h.same (f (by simpa [Rv.keeps] using k))⟩

/-- the exception object's class and own dict -/
def scalV : D → Option V
  | .int i => some (.int i)
  | .str x => some (.str ⟨x.toArray⟩)
  | _ => none
def ExAt (G : Gm) (H : Hp) (ex : Exc) (cv : Value) (od : Option Addr) : Prop :=
  cv = .ref (G.cls ex.c) ∧ match ex.arg with
    | none => True
    | some d => ∃ a f v, od = some a ∧ scalV d = some v ∧ H a = some (.xd [(G.fld f, v)])

/-- the reading of an expression: what m gives; q: nothing that stood is changed; W: what is wanted of an exception -/
def TEm (G : Gm) (W : WX) (q : Bool) (m : M Rv) : TE := fun σ H Q => ∃ S T r S', Ag S σ ∧ Own G H (cl S σ ++ T) ∧ m S = some (r, S') ∧
  match r with
  | .ok rv => ∀ v H', Ag S' σ → Own G H' (rv.cls v ++ (cl S' σ ++ T)) → rv.ok G σ H' v → (q = true → Same H H') → Q v H'
  | .error ex => ∀ cv od H', Ag S' σ → Own G H' (cl S' σ ++ T) → ExAt G H' ex cv od → W cv od σ H'
/-- a test's -/
def TTm (G : Gm) (W : WX) (q : Bool) (m : M Bool) : TT := fun σ H Q => ∃ S T r S', Ag S σ ∧ Own G H (cl S σ ++ T) ∧ m S = some (r, S') ∧
  match r with
  | .ok b => ∀ H', Ag S' σ → Own G H' (cl S' σ ++ T) → (q = true → Same H H') → Q b H'
  | .error ex => ∀ cv od H', Ag S' σ → Own G H' (cl S' σ ++ T) → ExAt G H' ex cv od → W cv od σ H'
/-- an argument list's -/
def clsA : List Rv → List V → List Cl
  | r :: rs, v :: vs => r.cls v ++ clsA rs vs
  | _, _ => []
def okA (G : Gm) (σ : Sg) (H : Hp) : List Rv → List V → Prop
  | r :: rs, v :: vs => r.ok G σ H v ∧ okA G σ H rs vs
  | [], [] => True
  | _, _ => False
def TAm (G : Gm) (W : WX) (q : Bool) (m : M (List Rv)) : TA := fun σ H Q => ∃ S T r S', Ag S σ ∧ Own G H (cl S σ ++ T) ∧ m S = some (r, S') ∧
  match r with
  | .ok rs => ∀ vs H', Ag S' σ → Own G H' (clsA rs vs ++ (cl S' σ ++ T)) → okA G σ H' rs vs → (q = true → Same H H') → Q vs H'
  | .error ex => ∀ cv od H', Ag S' σ → Own G H' (cl S' σ ++ T) → ExAt G H' ex cv od → W cv od σ H'

theorem _root_.L2.PE.imp {X : Cx} {e : Expr} {t t' : TE} (h : PE X e t) (i : ∀ σ H Q, t' σ H Q → t σ H Q) : PE X e t' := ⟨fun pins s σ H Q I q => h.run pins s σ H Q I (i σ H Q q)⟩
theorem _root_.L2.PT.imp {X : Cx} {e : Expr} {t t' : TT} (h : PT X e t) (i : ∀ σ H Q, t' σ H Q → t σ H Q) : PT X e t' := ⟨fun pins s σ H Q I q => h.run pins s σ H Q I (i σ H Q q)⟩
theorem _root_.L2.PA.imp {X : Cx} {es : List Expr} {t t' : TA} (h : PA X es t) (i : ∀ σ H Q, t' σ H Q → t σ H Q) : PA X es t' := ⟨fun pos pins s σ H Q I q => h.run pos pins s σ H Q I (i σ H Q q)⟩
end Dt

/-! Names, constants, operands in a row, operations on what can be read. -/
namespace Dt
open PySem PySem.Spec PyProof.Rows L2

def mVar (i : Nat) : M Rv := fun S => match S[i]? with
  | some (some (.fz, d)) => some (.ok (.tmp .fz d), S)
  | _ => none
def mFrz (i : Nat) : M Rv := fun S => match S[i]? with
  | some (some (sh, d)) => if sh.whole = true then some (.ok (.tmp .fz d), S.set i (some (.fz, d))) else none
  | _ => none
def mRef (i : Nat) : M Rv := fun S => match S[i]? with
  | some (some _) => some (.ok (.ref i []), S)
  | _ => none
def mCon (d : D) : M Rv := fun S => some (.ok (.tmp .fz d), S)
/-- operands from the left; q: nothing that stood is changed by it -/
def mArgs : List (Bool × M Rv) → M (List Rv)
  | [] => fun S => some (.ok [], S)
  | (q, m) :: ms => fun S => match m S with
    | none => none
    | some (.error e, S1) => some (.error e, S1)
    | some (.ok r, S1) => match mArgs ms S1 with
      | none => none
      | some (.error e, S2) => some (.error e, S2)
      | some (.ok rs, S2) => if r.keeps (ms.all (·.1)) = true then some (.ok (r :: rs), S2) else none
/-- what the operands stand for -/
def seeAll (S : List Slot) : List Rv → Option (List D)
  | [] => some []
  | r :: rs => match r.see S with
    | some (sh, d) => if sh.flat = true then match seeAll S rs with
        | some ds => some (d :: ds)
        | none => none
      else none
    | none => none
/-- a function of what is read -/
def mFun (f : List D → Option (Sh × D)) (as : M (List Rv)) : M Rv := fun S => match as S with
  | none => none
  | some (.error e, S1) => some (.error e, S1)
  | some (.ok rs, S1) => match seeAll S1 rs with
    | none => none
    | some ds => match f ds with
      | none => none
      | some (sh, d) => some (.ok (.tmp sh d), S1)

section
variable {X : Cx} {G : Gm} {W : WX}
theorem Own.ren {H : Hp} {L L' : List Cl} (h : Own G H L) (p : L.Perm L') : Own G H L' := h.perm p
theorem perm3 {α : Type} (A B C : List α) : (A ++ (B ++ C)).Perm (B ++ (A ++ C)) := by rw [← List.append_assoc, ← List.append_assoc]; exact List.perm_append_comm.append_right _
theorem Own.dropMid {H : Hp} {A B C : List Cl} (h : Own G H (A ++ (B ++ C))) : Own G H (A ++ C) := by
  have h1 : Own G H (B ++ (A ++ C)) := h.perm (by rw [← List.append_assoc, ← List.append_assoc]; exact List.perm_append_comm.append_right _)
  exact h1.drop

theorem pe_mvar {i : Nat} {x : Str} {pos : Pos} (hN : X.N[i]? = some x) (hv : Vis X.env.scope x) (hd : (x == ("__debug__" : Str)) = false) (hcd : (x == ("__classdict__" : Str)) = false) : PE X (.Name x pos) (TEm G W true (mVar i)) := by
  refine (pe_var hN hv hd hcd).imp fun σ H Q h => ?_
  obtain ⟨S, T, r, S', ag, ow, e, k⟩ := h
  unfold mVar at e
  split at e
  · rename_i d hS
    cases e
    obtain ⟨v, hv⟩ := ag.get hS
    refine ⟨v, hv, k v H ag ?_ trivial fun _ => Same.refl H⟩
    have p := (cl_get hS hv).append_right T
    have o2 := (ow.perm p).dup
    exact o2.perm (p.symm.cons _)
  · cases e
theorem pe_mfrz {i : Nat} {x : Str} {pos : Pos} (hN : X.N[i]? = some x) (hv : Vis X.env.scope x) (hd : (x == ("__debug__" : Str)) = false) (hcd : (x == ("__classdict__" : Str)) = false) : PE X (.Name x pos) (TEm G W false (mFrz i)) := by
  refine (pe_var hN hv hd hcd).imp fun σ H Q h => ?_
  obtain ⟨S, T, r, S', ag, ow, e, k⟩ := h
  unfold mFrz at e
  split at e
  · rename_i sh d hS
    split at e
    · rename_i w
      cases e
      obtain ⟨v, hv⟩ := ag.get hS
      refine ⟨v, hv, k v H (ag.set hv) ?_ trivial fun _ => Same.refl H⟩
      have p := (cl_get hS hv).append_right T
      have o2 := ((ow.perm p).freeze w).dup
      exact o2.perm (((cl_set ag.length hv).append_right T).symm.cons _)
    · cases e
  · cases e
theorem pe_mref {i : Nat} {x : Str} {pos : Pos} (hN : X.N[i]? = some x) (hv : Vis X.env.scope x) (hd : (x == ("__debug__" : Str)) = false) (hcd : (x == ("__classdict__" : Str)) = false) : PE X (.Name x pos) (TEm G W true (mRef i)) := by
  refine (pe_var hN hv hd hcd).imp fun σ H Q h => ?_
  obtain ⟨S, T, r, S', ag, ow, e, k⟩ := h
  unfold mRef at e
  split at e
  · rename_i sd hS
    cases e
    obtain ⟨v, hv⟩ := ag.get hS
    exact ⟨v, hv, k v H ag ow ⟨v, hv, rfl⟩ fun _ => Same.refl H⟩
  · cases e
/-- a constant: its value v stands for d over every heap -/
theorem con_ok {σ : Sg} {H : Hp} {Q : VK} {v : V} {d : D} (hc : ∀ (H : Hp) (N : Addr → Prop), RF G N H v d) (h : TEm G W true (mCon d) σ H Q) : Q v H := by
  obtain ⟨S, T, r, S', ag, ow, e, k⟩ := h
  cases e
  obtain ⟨O, o⟩ := ow
  exact k v H ag ⟨O, o.cons (hc _ _)⟩ trivial fun _ => Same.refl H
theorem pe_mint {i j pos} : PE X (.Constant (.int i) j pos) (TEm G W true (mCon (.int i))) := pe_int.imp fun _ _ _ h => con_ok (fun _ _ => .int i) h
theorem pe_mbl {i j pos} : PE X (.Constant (.bool i) j pos) (TEm G W true (mCon (.bl i))) := pe_bl.imp fun _ _ _ h => con_ok (fun _ _ => .bl i) h
theorem pe_mnon {j pos} : PE X (.Constant .none j pos) (TEm G W true (mCon .non)) := pe_non.imp fun _ _ _ h => con_ok (fun _ _ => .non) h
theorem pe_mstr {x : Str} {j pos} : PE X (.Constant (.str x) j pos) (TEm G W true (mCon (.str x.cps.toList))) := pe_str.imp fun _ _ _ h => con_ok (fun _ _ => .str x) h

/-! operands -/
theorem tam_nil {σ : Sg} {H : Hp} {Q : List V → Hp → Prop} (h : TAm G W true (mArgs []) σ H Q) : Q [] H := by
  obtain ⟨S, T, r, S', ag, ow, e, k⟩ := h
  cases e
  exact k [] H ag ow trivial fun _ => Same.refl H
theorem okA.keep {σ : Sg} {H H' : Hp} {q : Bool} : ∀ {rs : List Rv} {vs : List V}, okA G σ H rs vs → Same H H' → okA G σ H' rs vs
  | [], [], _, _ => trivial
  | r :: rs, v :: vs, ⟨h1, h2⟩, k => ⟨h1.keeps (q := true) (by cases r with | tmp => rfl | ref i p => cases p <;> rfl) fun _ => k, okA.keep (q := q) h2 k⟩
  | [], _ :: _, h, _ => h.elim
  | _ :: _, [], h, _ => h.elim
theorem tam_cons {σ : Sg} {H : Hp} {Q : List V → Hp → Prop} {q : Bool} {m : M Rv} {ms : List (Bool × M Rv)} (h : TAm G W (((q, m) :: ms).all (·.1)) (mArgs ((q, m) :: ms)) σ H Q) :
    TEm G W q m σ H fun v H1 => TAm G W (ms.all (·.1)) (mArgs ms) σ H1 fun vs H2 => Q (v :: vs) H2 := by
  obtain ⟨S, T, r, S', ag, ow, e, k⟩ := h
  unfold mArgs at e
  split at e
  · cases e
  · rename_i ex S1 e1
    cases e
    exact ⟨S, T, _, _, ag, ow, e1, k⟩
  · rename_i r1 S1 e1
    refine ⟨S, T, _, S1, ag, ow, e1, fun v H1 ag1 ow1 ok1 s1 => ?_⟩
    have ow1' : Own G H1 (cl S1 σ ++ (r1.cls v ++ T)) := ow1.perm (by rw [← List.append_assoc, ← List.append_assoc]; exact List.perm_append_comm.append_right _)
    split at e
    · cases e
    · rename_i ex S2 e2
      cases e
      exact ⟨S1, _, _, _, ag1, ow1', e2, fun cv od H' ag' ow' x => k cv od H' ag' (Own.dropMid ow') x⟩
    · rename_i rs S2 e2
      split at e
      · rename_i hk
        cases e
        refine ⟨S1, _, _, _, ag1, ow1', e2, fun vs H2 ag2 ow2 ok2 s2 => ?_⟩
        refine k (v :: vs) H2 ag2 (ow2.perm ?_) ⟨ok1.keeps hk s2, ok2⟩ fun hq => ?_
        · show (clsA rs vs ++ (cl S' σ ++ (r1.cls v ++ T))).Perm ((r1.cls v ++ clsA rs vs) ++ (cl S' σ ++ T))
          have p1 := perm3 (cl S' σ) (r1.cls v) T
          have p2 := perm3 (clsA rs vs) (r1.cls v) (cl S' σ ++ T)
          rw [List.append_assoc]
          exact (p1.append_left _).trans p2
        · simp only [List.all_cons, Bool.and_eq_true] at hq
          exact (s1 hq.1).trans (s2 hq.2)
      · cases e
theorem pa_mnil : PA X [] (TAm G W true (mArgs [])) := pa_nil.imp fun _ _ _ h => tam_nil h
theorem pa_mcons {e : Expr} {es : List Expr} {q : Bool} {m : M Rv} {ms : List (Bool × M Rv)} (he : PE X e (TEm G W q m)) (hs : PA X es (TAm G W (ms.all (·.1)) (mArgs ms)))
    (hst : starEach (e :: es) X.env = (false, eval e X.env) :: starEach es X.env) : PA X (e :: es) (TAm G W (((q, m) :: ms).all (·.1)) (mArgs ((q, m) :: ms))) := (pa_cons he hs hst).imp fun _ _ _ h => tam_cons h

/-! what is read -/
theorem RTs.mem {N : Addr → Prop} {H : Hp} : ∀ {L : List Cl} {fp}, RTs G N H L fp → ∀ {t}, t ∈ L → ∃ f, RT G N H t.sh t.v t.d f
  | _, _, .nil, _, h => by simp at h
  | _, _, .cons h r, t, ht => by
    rcases List.mem_cons.mp ht with rfl | ht
    · exact ⟨_, h⟩
    · exact r.mem ht
theorem RT.path {N : Addr → Prop} {H : Hp} : ∀ {p : List Stp} {sh : Sh} {v : V} {d : D} {fp : List Addr}, RT G N H sh v d fp → ∀ {sh2 d2 w}, pathD (sh, d) p = some (sh2, d2) → PathV G H v p w → ∃ f, RT G N H sh2 w d2 f
  | [], _, _, _, fp, h, _, _, _, e, rfl => by
    simp [pathD] at e
    obtain ⟨rfl, rfl⟩ := e
    exact ⟨fp, h⟩
  | .ix i :: p, sh, v, d, fp, h, sh2, d2, w, e, ⟨a, vs, u, ev, ea, eu, q⟩ => by
    cases h with
    | no => cases e
    | fz h => cases e
    | adr h => cases e
    | dct => cases e
    | ins => cases e
    | @lst b c L f h r w' =>
      cases ev
      rw [h] at ea
      cases ea
      show ∃ f, RT G N H sh2 w d2 f
      have e : (match (L.map Cl.d)[i]? with | some d => pathD (c, d) p | none => none) = some (sh2, d2) := e
      rw [List.getElem?_map] at e eu
      cases ht : L[i]? with
      | none => rw [ht] at eu; cases eu
      | some t =>
        rw [ht] at e eu
        cases eu
        have ht' : t ∈ L := List.mem_of_getElem? ht
        obtain ⟨f2, h2⟩ := r.mem ht'
        rw [w' t ht'] at h2
        exact RT.path h2 e q
  | .fld f :: p, sh, v, d, fp, h, sh2, d2, w, e, _ => by
    cases h <;> cases e
theorem see_rx {S : List Slot} {σ : Sg} {H : Hp} {A T : List Cl} {O : List Addr} (ag : Ag S σ) (o : OwnO G H (A ++ (cl S σ ++ T)) O) {r : Rv} {v : V} {sh d} (hA : ∀ t ∈ r.cls v, t ∈ A) (ok : r.ok G σ H v) (e : r.see S = some (sh, d)) (w : sh.flat = true) : RX G (fun a => a ∉ O) H v d := by
  cases r with
  | tmp sh' d' =>
    simp [Rv.see] at e
    obtain ⟨rfl, rfl⟩ := e
    obtain ⟨f, h⟩ := o.1.mem (t := ⟨sh', v, d'⟩) (List.mem_append_left _ (hA _ (by simp [Rv.cls])))
    exact h.rx w
  | ref i p =>
    obtain ⟨v0, ev, pv⟩ := ok
    have e : (match S[i]? with | some (some sd) => pathD sd p | _ => none) = some (sh, d) := e
    cases hS : S[i]? with
    | none => rw [hS] at e; cases e
    | some y => cases y with
      | none => rw [hS] at e; cases e
      | some sd =>
        rw [hS] at e
        obtain ⟨sh0, d0⟩ := sd
        have hm : (⟨sh0, v0, d0⟩ : Cl) ∈ cl S σ := (cl_get hS ev).mem_iff.mpr (by simp)
        obtain ⟨f, h⟩ := o.1.mem (t := ⟨sh0, v0, d0⟩) (List.mem_append_right _ (List.mem_append_left _ hm))
        obtain ⟨f2, h2⟩ := h.path e pv
        exact h2.rx w
inductive RXs (G : Gm) (N : Addr → Prop) (H : Hp) : List V → List D → Prop
  | nil : RXs G N H [] []
  | cons {v d vs ds} : RX G N H v d → RXs G N H vs ds → RXs G N H (v :: vs) (d :: ds)
theorem see_rxs {S : List Slot} {σ : Sg} {H : Hp} {A T : List Cl} {O : List Addr} (ag : Ag S σ) (o : OwnO G H (A ++ (cl S σ ++ T)) O) : ∀ {rs : List Rv} {vs : List V} {ds}, (∀ t ∈ clsA rs vs, t ∈ A) → okA G σ H rs vs → seeAll S rs = some ds → RXs G (fun a => a ∉ O) H vs ds
  | [], [], ds, _, _, e => by simp [seeAll] at e; subst e; exact .nil
  | r :: rs, v :: vs, ds, hA, ⟨ok, oks⟩, e => by
    unfold seeAll at e
    split at e
    · rename_i sh d e1
      split at e
      · rename_i w
        split at e
        · rename_i ds' e2
          cases e
          exact .cons (see_rx ag o (fun t ht => hA t (List.mem_append_left _ ht)) ok e1 w) (see_rxs ag o (fun t ht => hA t (List.mem_append_right _ ht)) oks e2)
        · cases e
      · cases e
    · cases e
  | [], _ :: _, _, _, h, _ => h.elim
  | _ :: _, [], _, _, h, _ => h.elim

/-- the operation r gives f of what is read, and leaves all that stood -/
def FunOk (G : Gm) (r : List V → Hp → VK → Prop) (f : List D → Option (Sh × D)) : Prop :=
  ∀ (H : Hp) (L : List Cl) (O : List Addr) (vs : List V) (ds : List D) (sh : Sh) (d : D) (Q : VK), OwnO G H L O → RXs G (fun a => a ∉ O) H vs ds → f ds = some (sh, d) →
    (∀ v H', Same H H' → Own G H' (⟨sh, v, d⟩ :: L) → Q v H') → r vs H Q
theorem tem_fun {σ : Sg} {H : Hp} {Q : VK} {q : Bool} {r : List V → Hp → VK → Prop} {f : List D → Option (Sh × D)} {as : M (List Rv)} (F : FunOk G r f) (h : TEm G W q (mFun f as) σ H Q) : TAm G W q as σ H fun vs H1 => r vs H1 Q := by
  obtain ⟨S, T, re, S', ag, ow, e, k⟩ := h
  unfold mFun at e
  split at e
  · cases e
  · rename_i ex S1 e1
    cases e
    exact ⟨S, T, _, _, ag, ow, e1, k⟩
  · rename_i rs S1 e1
    refine ⟨S, T, _, S1, ag, ow, e1, fun vs H1 ag1 ow1 ok1 s1 => ?_⟩
    split at e
    · cases e
    · rename_i ds e2
      split at e
      · cases e
      · rename_i sh d e3
        cases e
        obtain ⟨O, o⟩ := ow1
        refine F H1 _ O vs ds sh d Q o (see_rxs ag1 o (fun t ht => ht) ok1 e2) e3 fun v H2 s2 o2 => ?_
        exact k v H2 ag1 (Own.dropMid (A := [⟨sh, v, d⟩]) o2) trivial fun hq => (s1 hq).trans s2
/-- two operands -/
def on2 (f : D → D → Option (Sh × D)) : List D → Option (Sh × D)
  | [x, y] => f x y
  | _ => none
def on1 (f : D → Option (Sh × D)) : List D → Option (Sh × D)
  | [x] => f x
  | _ => none
def r2 (r : R2) : List V → Hp → VK → Prop := fun vs H Q => ∃ x y, vs = [x, y] ∧ r x y H Q
def r1 (r : V → Hp → VK → Prop) : List V → Hp → VK → Prop := fun vs H Q => ∃ x, vs = [x] ∧ r x H Q
def Fun2 (G : Gm) (r : R2) (f : D → D → Option (Sh × D)) : Prop := FunOk G (r2 r) (on2 f)
def Fun1 (G : Gm) (r : V → Hp → VK → Prop) (f : D → Option (Sh × D)) : Prop := FunOk G (r1 r) (on1 f)
def mOp2 (f : D → D → Option (Sh × D)) (q1 : Bool) (a : M Rv) (q2 : Bool) (b : M Rv) : M Rv := mFun (on2 f) (mArgs [(q1, a), (q2, b)])
def mOp1 (f : D → Option (Sh × D)) (q1 : Bool) (a : M Rv) : M Rv := mFun (on1 f) (mArgs [(q1, a)])
theorem tem_op2 {σ : Sg} {H : Hp} {Q : VK} {q1 q2 : Bool} {r : R2} {f : D → D → Option (Sh × D)} {a b : M Rv} (F : Fun2 G r f) (h : TEm G W (q1 && q2) (mOp2 f q1 a q2 b) σ H Q) : tOp r (TEm G W q1 a) (TEm G W q2 b) σ H Q := by
  have h1 := tem_fun F h
  have e : (q1 && q2) = (([(q1, a), (q2, b)] : List (Bool × M Rv)).all (·.1)) := by simp
  rw [e] at h1
  have h2 := tam_cons h1
  have mono1 : ∀ (Q1 Q2 : VK) σ H, (∀ v H, Q1 v H → Q2 v H) → TEm G W q1 a σ H Q1 → TEm G W q1 a σ H Q2 := fun Q1 Q2 σ H i ⟨S, T, r, S', ag, ow, e, k⟩ => ⟨S, T, r, S', ag, ow, e, by cases r with
    | ok rv => exact fun v H' x1 x2 x3 x4 => i v H' (k v H' x1 x2 x3 x4)
    | error ex => exact k⟩
  have mono2 : ∀ (Q1 Q2 : VK) σ H, (∀ v H, Q1 v H → Q2 v H) → TEm G W q2 b σ H Q1 → TEm G W q2 b σ H Q2 := fun Q1 Q2 σ H i ⟨S, T, r, S', ag, ow, e, k⟩ => ⟨S, T, r, S', ag, ow, e, by cases r with
    | ok rv => exact fun v H' x1 x2 x3 x4 => i v H' (k v H' x1 x2 x3 x4)
    | error ex => exact k⟩
  refine mono1 _ _ σ H (fun v H1 h3 => ?_) h2
  refine mono2 _ _ σ H1 (fun u H2 h4 => ?_) (tam_cons h3)
  obtain ⟨x, y, e, q⟩ := tam_nil h4
  cases e
  exact q
theorem pe_mop {op : Operator} {r : R2} {f} {a b : Expr} {q1 q2 : Bool} {ma mb : M Rv} {pos : Pos} (ho : OpR X (binaryOp op) r) (F : Fun2 G r f) (ha : PE X a (TEm G W q1 ma)) (hb : PE X b (TEm G W q2 mb)) : PE X (.BinOp a op b pos) (TEm G W (q1 && q2) (mOp2 f q1 ma q2 mb)) :=
  (pe_op ho ha hb).imp fun _ _ _ h => tem_op2 F h
theorem pe_mcmp {op : CmpOp} {r : R2} {f} {a b : Expr} {q1 q2 : Bool} {ma mb : M Rv} {pos : Pos} (ho : OpR X (compareOp op) r) (F : Fun2 G r f) (ha : PE X a (TEm G W q1 ma)) (hb : PE X b (TEm G W q2 mb)) (hm : behindInMarks op b = false) : PE X (.Compare a [op] [b] pos) (TEm G W (q1 && q2) (mOp2 f q1 ma q2 mb)) :=
  (pe_cmpR ho ha hb hm).imp fun _ _ _ h => tem_op2 F h
end
end Dt

/-! Operators over data. -/
namespace Dt
open PySem PySem.Spec PyProof.Rows L2

theorem OpR.or {X : Cx} {f : Value → Value → Sem Value} {r r' : R2} (h : OpR X f r) (h' : OpR X f r') : OpR X f (fun x y H Q => r x y H Q ∨ r' x y H Q) := by
  intro pins s σ H x y v u Q I rx ry q
  rcases q with q | q
  · exact h pins s σ H x y v u Q I rx ry q
  · exact h' pins s σ H x y v u Q I rx ry q
theorem Fun2.mk {G : Gm} {r : R2} {f : D → D → Option (Sh × D)} (h : ∀ (H : Hp) (L : List Cl) (O : List Addr) (v1 v2 : V) (d1 d2 : D) (sh : Sh) (d : D) (Q : VK), OwnO G H L O → RX G (fun a => a ∉ O) H v1 d1 → RX G (fun a => a ∉ O) H v2 d2 → f d1 d2 = some (sh, d) →
    (∀ v H', Same H H' → Own G H' (⟨sh, v, d⟩ :: L) → Q v H') → r v1 v2 H Q) : Fun2 G r f := by
  intro H L O vs ds sh d Q o rx e k
  cases rx with
  | nil => cases e
  | cons h1 rx => cases rx with
    | nil => cases e
    | cons h2 rx => cases rx with
      | nil => exact ⟨_, _, rfl, h H L O _ _ _ _ sh d Q o h1 h2 e k⟩
      | cons h3 rx => cases e
theorem Fun1.mk {G : Gm} {r : V → Hp → VK → Prop} {f : D → Option (Sh × D)} (h : ∀ (H : Hp) (L : List Cl) (O : List Addr) (v1 : V) (d1 : D) (sh : Sh) (d : D) (Q : VK), OwnO G H L O → RX G (fun a => a ∉ O) H v1 d1 → f d1 = some (sh, d) →
    (∀ v H', Same H H' → Own G H' (⟨sh, v, d⟩ :: L) → Q v H') → r v1 H Q) : Fun1 G r f := by
  intro H L O vs ds sh d Q o rx e k
  cases rx with
  | nil => cases e
  | cons h1 rx => cases rx with
    | nil => exact ⟨_, rfl, h H L O _ _ sh d Q o h1 e k⟩
    | cons h2 rx => cases e

/-! numbers -/
def addF : D → D → Option (Sh × D)
  | .int i, .int j => some (.fz, .int (i + j))
  | .str x, .str y => if x.length + y.length ≤ sizeLine then some (.fz, .str (x ++ y)) else none
  | .tup xs, .tup ys => if xs.length + ys.length ≤ sizeLine then some (.fz, .tup (xs ++ ys)) else none
  | .lst xs, .lst ys => if xs.length + ys.length ≤ sizeLine then some (.lst .fz, .lst (xs ++ ys)) else none
  | _, _ => none
def rCatL (K : PySem.W.Frag) : R2 := fun x y H Q => ∃ l b xs zs, x = .ref l ∧ y = .ref b ∧ SqL K H l xs ∧ SqL K H b zs ∧ xs.length + zs.length ≤ sizeLine ∧ ∀ p, H p = none → Q (.ref p) (upd H p (.lst (xs ++ zs)))
theorem op_catL {X : Cx} : OpR X (binaryOp .Add) (rCatL X.K) := by
  intro pins s σ H x y v u Q I rx ry h
  obtain ⟨l, b, xs, zs, rfl, rfl, hH, hB, hz, q⟩ := h
  cases rx
  cases ry
  obtain ⟨its, r, p1, hl⟩ := I.list hH
  obtain ⟨its2, r2, p2, hl2⟩ := I.list hB
  obtain ⟨⟨cls, dd, data, sl⟩, n, ho, hc, hd0, hd⟩ := p1
  obtain ⟨⟨cls2, dd2, data2, sl2⟩, n2, ho2, hc2, hd02, hd2⟩ := p2
  simp only at hc hd hc2 hd2
  subst hc hd hc2 hd2
  have e1 := r.length
  have e2 := r2.length
  refine concat_meets ⟨_, ho, rfl⟩ ⟨_, ho2, rfl⟩ noFill_list_add seq_list_add PySem.F.slot_list_add PySem.F.entry_list_add (PySem.F.args_list_add_2 _ _) (list_addW l b its.toArray its2.toArray n n2 dd dd2 sl sl2 (by rw [List.size_toArray, List.size_toArray]; omega)) ⟨ho, ho2, ?_⟩
  have ea : its.toArray ++ its2.toArray = (its ++ its2).toArray := by simp
  rw [ea]
  exact ⟨.ref _, _, I.lnew (t' := s.toks) (r.append r2) (by rw [List.length_append]; omega), rfl, q _ I.fresh⟩
def rAddD (K : PySem.W.Frag) : R2 := fun x y H Q => rI0 (fun i j => .int (i + j)) x y H Q ∨ (∃ i j, x = .str i ∧ y = .str j ∧ i.length + j.length ≤ sizeLine ∧ Q (.str (i ++ j)) H) ∨ rCatA K x y H Q ∨ rCatL K x y H Q
theorem op_addD {X : Cx} : OpR X (binaryOp .Add) (rAddD X.K) := OpR.or op_add (OpR.or op_add_str (OpR.or op_catA op_catL))
theorem str_app (x y : List Nat) : (⟨x.toArray⟩ : Str) ++ (⟨y.toArray⟩ : Str) = ⟨(x ++ y).toArray⟩ := by
  show Str.append _ _ = _
  simp [Str.append]
theorem str_len (x : List Nat) : (⟨x.toArray⟩ : Str).length = x.length := by simp [Str.length]
theorem fun_add {G : Gm} : Fun2 G (rAddD G.K) addF := Fun2.mk fun H L O v1 v2 d1 d2 sh d Q o h1 h2 e k => by
  unfold addF at e
  split at e
  · cases e
    cases h1.int_at; cases h2.int_at
    exact .inl ⟨_, _, rfl, rfl, k _ H (Same.refl H) ⟨O, o.cons (.int _)⟩⟩
  · split at e
    · rename_i x y hz
      cases e
      cases h1.str_at; cases h2.str_at
      refine .inr (.inl ⟨_, _, rfl, rfl, by rw [str_len, str_len]; exact hz, ?_⟩)
      rw [str_app]
      refine k _ H (Same.refl H) ⟨O, o.cons ?_⟩
      have := RF.str (G := G) (N := fun a => a ∉ O) (H := H) ⟨(x ++ y).toArray⟩
      simpa using this
    · cases e
  · split at e
    · rename_i xs ys hz
      cases e
      obtain ⟨a, vs, rfl, t1, r1⟩ := h1.tup_at
      obtain ⟨b, ws, rfl, t2, r2⟩ := h2.tup_at
      have e1 := r1.length
      have e2 := r2.length
      refine .inr (.inr (.inl ⟨a, b, vs, ws, rfl, rfl, t1, t2, by omega, fun q => ?_, fun q1 q2 => ?_, fun q1 q2 p hp => ?_⟩))
      · have : xs = [] := by rw [q] at e1; exact List.eq_nil_of_length_eq_zero e1.symm
        subst this
        refine k _ H (Same.refl H) ⟨O, o.cons ?_⟩
        cases h2 with
        | fz h => exact h
      · have : ys = [] := by rw [q2] at e2; exact List.eq_nil_of_length_eq_zero e2.symm
        subst this
        refine k _ H (Same.refl H) ⟨O, o.cons ?_⟩
        rw [List.append_nil]
        cases h1 with
        | fz h => exact h
      · exact k _ _ (upd_new hp) ⟨O, o.newTup (r1.append r2) hp⟩
    · cases e
  · split at e
    · rename_i xs ys hz
      cases e
      obtain ⟨a, vs, rfl, t1, r1⟩ := h1.lst_at
      obtain ⟨b, ws, rfl, t2, r2⟩ := h2.lst_at
      have e1 := r1.length
      have e2 := r2.length
      exact .inr (.inr (.inr ⟨a, b, vs, ws, rfl, rfl, t1, t2, by omega, fun p hp => k _ _ (upd_new hp) (o.newLst (r1.append r2) hp)⟩))
    · cases e
  · cases e
def subF : D → D → Option (Sh × D)
  | .int i, .int j => some (.fz, .int (i - j))
  | _, _ => none
theorem fun_sub {G : Gm} : Fun2 G (rI0 fun i j => .int (i - j)) subF := Fun2.mk fun H L O v1 v2 d1 d2 sh d Q o h1 h2 e k => by
  unfold subF at e
  split at e
  · cases e
    cases h1.int_at; cases h2.int_at
    exact ⟨_, _, rfl, rfl, k _ H (Same.refl H) ⟨O, o.cons (.int _)⟩⟩
  · cases e
def mulF : D → D → Option (Sh × D)
  | .int i, .int j => if (-(2 ^ 64) < i ∧ i < 2 ^ 64) ∨ (-(2 ^ 64) < j ∧ j < 2 ^ 64) then some (.fz, .int (i * j)) else none
  | _, _ => none
theorem fun_mul {G : Gm} : Fun2 G (rI CMul fun i j => .int (i * j)) mulF := Fun2.mk fun H L O v1 v2 d1 d2 sh d Q o h1 h2 e k => by
  unfold mulF at e
  split at e
  · split at e
    · rename_i c
      cases e
      cases h1.int_at; cases h2.int_at
      exact ⟨_, _, rfl, rfl, c, k _ H (Same.refl H) ⟨O, o.cons (.int _)⟩⟩
    · cases e
  · cases e
def divF : D → D → Option (Sh × D)
  | .int i, .int j => if 0 < j ∧ j < 1073741824 then some (.fz, .int (i / j)) else none
  | _, _ => none
theorem fun_div {G : Gm} : Fun2 G (rI CDiv fun i j => .int (i / j)) divF := Fun2.mk fun H L O v1 v2 d1 d2 sh d Q o h1 h2 e k => by
  unfold divF at e
  split at e
  · split at e
    · rename_i c
      cases e
      cases h1.int_at; cases h2.int_at
      exact ⟨_, _, rfl, rfl, c, k _ H (Same.refl H) ⟨O, o.cons (.int _)⟩⟩
    · cases e
  · cases e
def modF : D → D → Option (Sh × D)
  | .int i, .int j => if 0 < j then some (.fz, .int (i % j)) else none
  | _, _ => none
theorem fun_mod {G : Gm} : Fun2 G (rI (fun _ j => 0 < j) fun i j => .int (i % j)) modF := Fun2.mk fun H L O v1 v2 d1 d2 sh d Q o h1 h2 e k => by
  unfold modF at e
  split at e
  · split at e
    · rename_i c
      cases e
      cases h1.int_at; cases h2.int_at
      exact ⟨_, _, rfl, rfl, c, k _ H (Same.refl H) ⟨O, o.cons (.int _)⟩⟩
    · cases e
  · cases e
def powF : D → D → Option (Sh × D)
  | .int i, .int j => if 0 ≤ j ∧ j ≤ 1000000 ∧ i.natAbs < 2 ^ 64 then some (.fz, .int (i ^ j.toNat)) else none
  | _, _ => none
theorem fun_pow {G : Gm} : Fun2 G (rI CPow fun i j => .int (i ^ j.toNat)) powF := Fun2.mk fun H L O v1 v2 d1 d2 sh d Q o h1 h2 e k => by
  unfold powF at e
  split at e
  · split at e
    · rename_i c
      cases e
      cases h1.int_at; cases h2.int_at
      exact ⟨_, _, rfl, rfl, c, k _ H (Same.refl H) ⟨O, o.cons (.int _)⟩⟩
    · cases e
  · cases e

/-! data as the library's -/
mutual
def D.py : D → Option PyData
  | .non => some .none
  | .bl b => some (.bool b)
  | .int i => some (.int i)
  | .str x => some (.str ⟨x.toArray⟩)
  | .tup xs => match D.pys xs with
    | some ys => some (.tuple ys)
    | none => none
  | .lst xs => match D.pys xs with
    | some ys => some (.list ys)
    | none => none
  | _ => none
def D.pys : List D → Option (List PyData)
  | [] => some []
  | x :: xs => match D.py x, D.pys xs with
    | some y, some ys => some (y :: ys)
    | _, _ => none
end
mutual
theorem RF.dp {G : Gm} {N : Addr → Prop} {H : Hp} : ∀ {v d}, RF G N H v d → ∀ {p}, d.py = some p → Dp G.K H v p
  | _, _, .non, p, e => by simp [D.py] at e; subst e; exact .non
  | _, _, .bl b, p, e => by simp [D.py] at e; subst e; exact .bl b
  | _, _, .int i, p, e => by simp [D.py] at e; subst e; exact .int i
  | _, _, .str x, p, e => by simp [D.py] at e; subst e; exact .str x
  | _, _, .tup h r, p, e => by
    unfold D.py at e
    split at e
    · rename_i ys eys
      cases e
      exact .tup (h.elim (fun h => .inl h.1) .inr) (RFs.dp r eys)
    · cases e
  | _, _, .lst h r, p, e => by
    unfold D.py at e
    split at e
    · rename_i ys eys
      cases e
      exact .lst (h.elim (fun h => .inl h.1) .inr) (RFs.dp r eys)
    · cases e
  | _, _, .dct .., p, e => by cases e
  | _, _, .ty _, p, e => by cases e
  | _, _, .cls _, p, e => by cases e
  | _, _, .ins .., p, e => by cases e
theorem RFs.dp {G : Gm} {N : Addr → Prop} {H : Hp} : ∀ {vs ds}, RFs G N H vs ds → ∀ {p}, D.pys ds = some p → DpAll G.K H vs p
  | _, _, .nil, p, e => by simp [D.pys] at e; subst e; exact .nil
  | _, _, .cons h r, p, e => by
    unfold D.pys at e
    split at e
    · rename_i y ys e1 e2
      cases e
      exact .cons (RF.dp h e1) (RFs.dp r e2)
    · cases e
end
theorem RX.dp {G : Gm} {N : Addr → Prop} {H : Hp} {v d p} (h : RX G N H v d) (e : d.py = some p) : Dp G.K H v p := by
  cases h with
  | fz h => exact h.dp e
  | lst h r =>
    unfold D.py at e
    split at e
    · rename_i ys eys
      cases e
      exact .lst (.inl (.inl h)) (r.dp eys)
    · cases e
  | dct h1 h2 h3 h4 => cases e
/-- == -/
def eqB (a b : D) : Option Bool := match a.py, b.py with
  | some x, some y => if SeqAt.shaped x = true ∧ SeqAt.shaped y = true then some (PyData.eqv x y) else none
  | _, _ => none
def eqF (a b : D) : Option (Sh × D) := (eqB a b).map fun c => (.fz, .bl c)
def neF (a b : D) : Option (Sh × D) := (eqB a b).map fun c => (.fz, .bl (!c))
theorem fun_eq {G : Gm} : Fun2 G (rEqD G.K) eqF := Fun2.mk fun H L O v1 v2 d1 d2 sh d Q o h1 h2 e k => by
  unfold eqF eqB at e
  split at e
  · rename_i x y e1 e2
    split at e
    · rename_i c
      cases e
      exact ⟨x, y, h1.dp e1, h2.dp e2, c.1, c.2, k _ H (Same.refl H) ⟨O, o.cons (.bl _)⟩⟩
    · cases e
  · cases e
theorem fun_ne {G : Gm} : Fun2 G (rNeD G.K) neF := Fun2.mk fun H L O v1 v2 d1 d2 sh d Q o h1 h2 e k => by
  unfold neF eqB at e
  split at e
  · rename_i x y e1 e2
    split at e
    · rename_i c
      cases e
      exact ⟨x, y, h1.dp e1, h2.dp e2, c.1, c.2, k _ H (Same.refl H) ⟨O, o.cons (.bl _)⟩⟩
    · cases e
  · cases e

/-! subscripts by a number -/
def idxF : D → D → Option (Sh × D)
  | .lst xs, .int i => (atI xs i).map fun d => (.fz, d)
  | .tup xs, .int i => (atI xs i).map fun d => (.fz, d)
  | .str x, .int i => if x.length ≤ sizeLine then (atI x i).map fun c => (.fz, .str [c]) else none
  | _, _ => none
theorem RFs.atI {G : Gm} {N : Addr → Prop} {H : Hp} {vs : List V} {ds : List D} {i : Int} {d : D} (r : RFs G N H vs ds) (e : atI ds i = some d) : ∃ v, atI vs i = some v ∧ RF G N H v d := by
  unfold L2.atI at e ⊢
  rw [r.length]
  cases h : ixN ds.length i with
  | none => rw [h] at e; cases e
  | some j =>
    rw [h] at e
    exact r.get e
theorem fun_idx {G : Gm} : Fun2 G (rIx G.K) idxF := Fun2.mk fun H L O v1 v2 d1 d2 sh d Q o h1 h2 e k => by
  unfold idxF at e
  split at e
  · rename_i xs i
    cases h2.int_at
    obtain ⟨a, vs, rfl, t, r⟩ := h1.lst_at
    cases h : atI xs i with
    | none => rw [h] at e; cases e
    | some d' =>
      rw [h] at e
      cases e
      obtain ⟨v, ev, rv⟩ := r.atI h
      exact .inl ⟨a, vs, i, v, rfl, rfl, t, ev, k _ H (Same.refl H) ⟨O, o.cons rv⟩⟩
  · rename_i xs i
    cases h2.int_at
    obtain ⟨a, vs, rfl, t, r⟩ := h1.tup_at
    cases h : atI xs i with
    | none => rw [h] at e; cases e
    | some d' =>
      rw [h] at e
      cases e
      obtain ⟨v, ev, rv⟩ := r.atI h
      exact .inr (.inl ⟨a, vs, i, v, rfl, rfl, t, ev, k _ H (Same.refl H) ⟨O, o.cons rv⟩⟩)
  · rename_i x i
    cases h2.int_at
    cases h1.str_at
    split at e
    · rename_i hz
      cases h : atI x i with
      | none => rw [h] at e; cases e
      | some c =>
        rw [h] at e
        cases e
        refine .inr (.inr ⟨_, i, c, rfl, rfl, by rw [str_len]; exact hz, by simpa using h, k _ H (Same.refl H) ⟨O, o.cons ?_⟩⟩)
        exact RF.str ⟨#[c]⟩
    · cases e
  · cases e
end Dt

/-! Tests; and, or, not; a if t else b. -/
namespace Dt
open PySem PySem.Spec PyProof.Rows L2

/-- a truth value from an expression -/
def mBool (m : M Rv) : M Bool := fun S => match m S with
  | none => none
  | some (.error e, S1) => some (.error e, S1)
  | some (.ok (.tmp .fz (.bl b)), S1) => some (.ok b, S1)
  | _ => none
def bAnd (a b : M Bool) : M Bool := fun S => match a S with
  | none => none
  | some (.error e, S1) => some (.error e, S1)
  | some (.ok true, S1) => b S1
  | some (.ok false, S1) => some (.ok false, S1)
def bOr (a b : M Bool) : M Bool := fun S => match a S with
  | none => none
  | some (.error e, S1) => some (.error e, S1)
  | some (.ok true, S1) => some (.ok true, S1)
  | some (.ok false, S1) => b S1
def bNot (a : M Bool) : M Bool := fun S => match a S with
  | none => none
  | some (.error e, S1) => some (.error e, S1)
  | some (.ok b, S1) => some (.ok (!b), S1)
def bIf (c : M Bool) (a b : M Rv) : M Rv := fun S => match c S with
  | none => none
  | some (.error e, S1) => some (.error e, S1)
  | some (.ok true, S1) => a S1
  | some (.ok false, S1) => b S1
/-- a truth value as a value -/
def mOfB (a : M Bool) : M Rv := fun S => match a S with
  | none => none
  | some (.error e, S1) => some (.error e, S1)
  | some (.ok b, S1) => some (.ok (.tmp .fz (.bl b)), S1)

theorem andL {a b : Bool} (h : (a && b) = true) : a = true := (Bool.and_eq_true_iff.mp h).1
theorem andR {a b : Bool} (h : (a && b) = true) : b = true := (Bool.and_eq_true_iff.mp h).2
section
variable {X : Cx} {G : Gm} {W : WX} {σ : Sg} {H : Hp} {q q1 q2 q3 : Bool}
theorem tem_mono {m : M Rv} {Q Q' : VK} (h : TEm G W q m σ H Q) (i : ∀ v H, Q v H → Q' v H) : TEm G W q m σ H Q' := by
  obtain ⟨S, T, r, S', ag, ow, e, k⟩ := h
  refine ⟨S, T, r, S', ag, ow, e, ?_⟩
  cases r with
  | ok rv => exact fun v H' x1 x2 x3 x4 => i v H' (k v H' x1 x2 x3 x4)
  | error ex => exact k
theorem ttm_mono {m : M Bool} {Q Q' : Bool → Hp → Prop} (h : TTm G W q m σ H Q) (i : ∀ v H, Q v H → Q' v H) : TTm G W q m σ H Q' := by
  obtain ⟨S, T, r, S', ag, ow, e, k⟩ := h
  refine ⟨S, T, r, S', ag, ow, e, ?_⟩
  cases r with
  | ok rv => exact fun H' x1 x2 x3 => i rv H' (k H' x1 x2 x3)
  | error ex => exact k
theorem Own.bl_head {L : List Cl} {v : V} {b : Bool} (h : Own G H (⟨.fz, v, .bl b⟩ :: L)) : v = .bl b := by
  obtain ⟨O, h⟩ := h
  have := h.head.1
  cases this
  rfl
/-- the value of m is a truth value -/
theorem ttm_val {m : M Rv} {Q : Bool → Hp → Prop} (h : TTm G W q (mBool m) σ H Q) : TEm G W q m σ H fun v H1 => ∃ c, v = .bl c ∧ Q c H1 := by
  obtain ⟨S, T, r, S', ag, ow, e, k⟩ := h
  unfold mBool at e
  split at e
  · cases e
  · rename_i e1
    cases e
    exact ⟨S, T, _, _, ag, ow, e1, k⟩
  · rename_i b S1 e1
    cases e
    refine ⟨S, T, _, _, ag, ow, e1, fun v H' a1 a2 a3 a4 => ⟨b, Own.bl_head a2, k H' a1 (Own.tail a2) a4⟩⟩
  · cases e
theorem pt_mval {e : Expr} {m : M Rv} (h : PE X e (TEm G W q m)) (he : ∀ whole, isTrue e X.env whole = (do let v ← whole; standAt e.pos; holding [v] (truthy v))) : PT X e (TTm G W q (mBool m)) :=
  (pt_val h he).imp fun _ _ _ h => ttm_val h
theorem pt_mcmp {op : CmpOp} {r : R2} {f} {a b : Expr} {ma mb : M Rv} {pos : Pos} (ho : OpR X (compareOp op) r) (F : Fun2 G r f) (ha : PE X a (TEm G W q1 ma)) (hb : PE X b (TEm G W q2 mb)) (hm : behindInMarks op b = false) :
    PT X (.Compare a [op] [b] pos) (TTm G W (q1 && q2) (mBool (mOp2 f q1 ma q2 mb))) := (pt_cmpR ho ha hb hm).imp fun _ _ _ h => tem_op2 F (ttm_val h)
theorem ttm_and {a b : M Bool} {Q : Bool → Hp → Prop} (h : TTm G W (q1 && q2) (bAnd a b) σ H Q) : tAnd (TTm G W q1 a) (TTm G W q2 b) σ H Q := by
  obtain ⟨S, T, r, S', ag, ow, e, k⟩ := h
  unfold bAnd at e
  split at e
  · cases e
  · rename_i e1
    cases e
    exact ⟨S, T, _, _, ag, ow, e1, k⟩
  · rename_i S1 e1
    refine ⟨S, T, _, _, ag, ow, e1, fun H1 a1 a2 a3 => ?_⟩
    refine iteT ?_
    refine ⟨S1, T, r, S', a1, a2, e, ?_⟩
    cases r with
    | ok b => exact fun H2 b1 b2 b3 => k H2 b1 b2 fun hq => (a3 (andL hq)).trans (b3 (andR hq))
    | error ex => exact k
  · rename_i S1 e1
    cases e
    refine ⟨S, T, _, _, ag, ow, e1, fun H1 a1 a2 a3 => ?_⟩
    refine iteF ?_
    exact k H1 a1 a2 fun hq => a3 (andL hq)
theorem ttm_or {a b : M Bool} {Q : Bool → Hp → Prop} (h : TTm G W (q1 && q2) (bOr a b) σ H Q) : tOr (TTm G W q1 a) (TTm G W q2 b) σ H Q := by
  obtain ⟨S, T, r, S', ag, ow, e, k⟩ := h
  unfold bOr at e
  split at e
  · cases e
  · rename_i e1
    cases e
    exact ⟨S, T, _, _, ag, ow, e1, k⟩
  · rename_i S1 e1
    cases e
    refine ⟨S, T, _, _, ag, ow, e1, fun H1 a1 a2 a3 => ?_⟩
    refine iteT ?_
    exact k H1 a1 a2 fun hq => a3 (andL hq)
  · rename_i S1 e1
    refine ⟨S, T, _, _, ag, ow, e1, fun H1 a1 a2 a3 => ?_⟩
    refine iteF ?_
    refine ⟨S1, T, r, S', a1, a2, e, ?_⟩
    cases r with
    | ok b => exact fun H2 b1 b2 b3 => k H2 b1 b2 fun hq => (a3 (andL hq)).trans (b3 (andR hq))
    | error ex => exact k
theorem ttm_not {a : M Bool} {Q : Bool → Hp → Prop} (h : TTm G W q (bNot a) σ H Q) : tNot (TTm G W q a) σ H Q := by
  obtain ⟨S, T, r, S', ag, ow, e, k⟩ := h
  unfold bNot at e
  split at e
  · cases e
  · rename_i e1
    cases e
    exact ⟨S, T, _, _, ag, ow, e1, k⟩
  · rename_i b S1 e1
    cases e
    exact ⟨S, T, _, _, ag, ow, e1, k⟩
theorem pt_mnot {a : Expr} {m : M Bool} {pos : Pos} (h : PT X a (TTm G W q m)) : PT X (.UnaryOp .Not a pos) (TTm G W q (bNot m)) := (pt_not h).imp fun _ _ _ h => ttm_not h
theorem _root_.L2.PW.imp {X : Cx} {e : Expr} {t t' : TT} (h : PW X e t) (i : ∀ σ H Q, t' σ H Q → t σ H Q) : PW X e t' := ⟨fun wh pins s σ H Q I q => h.run wh pins s σ H Q I (i σ H Q q)⟩
theorem pw_mand1 {a : Expr} {m : M Bool} {pos : Pos} (h : PT X a (TTm G W q m)) : PW X (.BoolOp .And [a] pos) (TTm G W q m) := pw_and1 h
theorem pw_mor1 {a : Expr} {m : M Bool} {pos : Pos} (h : PT X a (TTm G W q m)) : PW X (.BoolOp .Or [a] pos) (TTm G W q m) := pw_or1 h
theorem pw_mand {a b : Expr} {rest : List Expr} {m m' : M Bool} {pos : Pos} (h : PT X a (TTm G W q1 m)) (h' : PW X (.BoolOp .And (b :: rest) pos) (TTm G W q2 m')) : PW X (.BoolOp .And (a :: b :: rest) pos) (TTm G W (q1 && q2) (bAnd m m')) := (pw_and h h').imp fun _ _ _ h => ttm_and h
theorem pw_mor {a b : Expr} {rest : List Expr} {m m' : M Bool} {pos : Pos} (h : PT X a (TTm G W q1 m)) (h' : PW X (.BoolOp .Or (b :: rest) pos) (TTm G W q2 m')) : PW X (.BoolOp .Or (a :: b :: rest) pos) (TTm G W (q1 && q2) (bOr m m')) := (pw_or h h').imp fun _ _ _ h => ttm_or h
theorem tem_if {c : M Bool} {a b : M Rv} {Q : VK} (h : TEm G W (q1 && (q2 && q3)) (bIf c a b) σ H Q) : tIf (TTm G W q1 c) (TEm G W q2 a) (TEm G W q3 b) σ H Q := by
  obtain ⟨S, T, r, S', ag, ow, e, k⟩ := h
  unfold bIf at e
  split at e
  · cases e
  · rename_i e1
    cases e
    exact ⟨S, T, _, _, ag, ow, e1, k⟩
  · rename_i S1 e1
    refine ⟨S, T, _, _, ag, ow, e1, fun H1 a1 a2 a3 => ?_⟩
    refine iteT ?_
    refine ⟨S1, T, r, S', a1, a2, e, ?_⟩
    cases r with
    | ok b => exact fun v H2 b1 b2 b3 b4 => k v H2 b1 b2 b3 fun hq => (a3 (andL hq)).trans (b4 (andL (andR hq)))
    | error ex => exact k
  · rename_i S1 e1
    refine ⟨S, T, _, _, ag, ow, e1, fun H1 a1 a2 a3 => ?_⟩
    refine iteF ?_
    refine ⟨S1, T, r, S', a1, a2, e, ?_⟩
    cases r with
    | ok b => exact fun v H2 b1 b2 b3 b4 => k v H2 b1 b2 b3 fun hq => (a3 (andL hq)).trans (b4 (andR (andR hq)))
    | error ex => exact k
theorem pe_mif {c a b : Expr} {pos : Pos} {mc : M Bool} {ma mb : M Rv} (hc : PT X c (TTm G W q1 mc)) (ha : PE X a (TEm G W q2 ma)) (hb : PE X b (TEm G W q3 mb)) : PE X (.IfExp c a b pos) (TEm G W (q1 && (q2 && q3)) (bIf mc ma mb)) :=
  (pe_ifExp hc ha hb).imp fun _ _ _ h => tem_if h
/-- and, or of truth values, as values: all but the last are truth values -/
def vAnd (a b : M Rv) : M Rv := fun S => match mBool a S with
  | none => none
  | some (.error e, S1) => some (.error e, S1)
  | some (.ok true, S1) => b S1
  | some (.ok false, S1) => some (.ok (.tmp .fz (.bl false)), S1)
def vOr (a b : M Rv) : M Rv := fun S => match mBool a S with
  | none => none
  | some (.error e, S1) => some (.error e, S1)
  | some (.ok true, S1) => some (.ok (.tmp .fz (.bl true)), S1)
  | some (.ok false, S1) => b S1
def vNot (a : M Rv) : M Rv := mOfB (bNot (mBool a))
theorem tem_vand {a b : M Rv} {Q : VK} (h : TEm G W (q1 && q2) (vAnd a b) σ H Q) : tAndV (TEm G W q1 a) (TEm G W q2 b) σ H Q := by
  obtain ⟨S, T, r, S', ag, ow, e, k⟩ := h
  unfold vAnd at e
  have main : TTm G W q1 (mBool a) σ H fun c H1 => if c = true then TEm G W q2 b σ H1 Q else Q (.bl false) H1 := by
    split at e
    · cases e
    · rename_i e1
      cases e
      exact ⟨S, T, _, _, ag, ow, e1, k⟩
    · rename_i S1 e1
      refine ⟨S, T, _, _, ag, ow, e1, fun H1 a1 a2 a3 => ?_⟩
      refine iteT ?_
      refine ⟨S1, T, r, S', a1, a2, e, ?_⟩
      cases r with
      | ok b => exact fun v H2 b1 b2 b3 b4 => k v H2 b1 b2 b3 fun hq => (a3 (andL hq)).trans (b4 (andR hq))
      | error ex => exact k
    · rename_i S1 e1
      cases e
      refine ⟨S, T, _, _, ag, ow, e1, fun H1 a1 a2 a3 => ?_⟩
      refine iteF ?_
      exact k _ H1 a1 (Own.blC false a2) trivial fun hq => a3 (andL hq)
  exact ttm_val main
theorem tem_vor {a b : M Rv} {Q : VK} (h : TEm G W (q1 && q2) (vOr a b) σ H Q) : tOrV (TEm G W q1 a) (TEm G W q2 b) σ H Q := by
  obtain ⟨S, T, r, S', ag, ow, e, k⟩ := h
  unfold vOr at e
  have main : TTm G W q1 (mBool a) σ H fun c H1 => if c = true then Q (.bl true) H1 else TEm G W q2 b σ H1 Q := by
    split at e
    · cases e
    · rename_i e1
      cases e
      exact ⟨S, T, _, _, ag, ow, e1, k⟩
    · rename_i S1 e1
      cases e
      refine ⟨S, T, _, _, ag, ow, e1, fun H1 a1 a2 a3 => ?_⟩
      refine iteT ?_
      exact k _ H1 a1 (Own.blC true a2) trivial fun hq => a3 (andL hq)
    · rename_i S1 e1
      refine ⟨S, T, _, _, ag, ow, e1, fun H1 a1 a2 a3 => ?_⟩
      refine iteF ?_
      refine ⟨S1, T, r, S', a1, a2, e, ?_⟩
      cases r with
      | ok b => exact fun v H2 b1 b2 b3 b4 => k v H2 b1 b2 b3 fun hq => (a3 (andL hq)).trans (b4 (andR hq))
      | error ex => exact k
  exact ttm_val main
theorem pe_mand {a b : Expr} {rest : List Expr} {m m' : M Rv} {pos : Pos} (h : PE X a (TEm G W q1 m)) (h' : PE X (.BoolOp .And (b :: rest) pos) (TEm G W q2 m')) : PE X (.BoolOp .And (a :: b :: rest) pos) (TEm G W (q1 && q2) (vAnd m m')) := (pe_and h h').imp fun _ _ _ h => tem_vand h
theorem pe_mor {a b : Expr} {rest : List Expr} {m m' : M Rv} {pos : Pos} (h : PE X a (TEm G W q1 m)) (h' : PE X (.BoolOp .Or (b :: rest) pos) (TEm G W q2 m')) : PE X (.BoolOp .Or (a :: b :: rest) pos) (TEm G W (q1 && q2) (vOr m m')) := (pe_or h h').imp fun _ _ _ h => tem_vor h
theorem pe_mnotv {a : Expr} {m : M Rv} {pos : Pos} (h : PE X a (TEm G W q m)) : PE X (.UnaryOp .Not a pos) (TEm G W q (vNot m)) := by
  refine (pe_not h).imp fun σ H Q h => ?_
  refine ttm_val (m := m) (Q := fun c H1 => Q (.bl (!c)) H1) ?_
  obtain ⟨S, T, r, S', ag, ow, e, k⟩ := h
  unfold vNot mOfB bNot at e
  cases h : mBool m S with
  | none => rw [h] at e; cases e
  | some y =>
    rw [h] at e
    obtain ⟨y, S1⟩ := y
    cases y with
    | error ex => cases e; exact ⟨S, T, _, _, ag, ow, h, k⟩
    | ok b => cases e; exact ⟨S, T, _, _, ag, ow, h, fun H1 a1 a2 a3 => k _ H1 a1 (Own.blC _ a2) trivial a3⟩
end
end Dt

/-! Statements. -/
namespace Dt
open PySem PySem.Spec PyProof.Rows L2

/-- how a statement ends -/
inductive Fl where
  | nx
  | rt (sh : Sh) (d : D)
  | bk
  | ct
/-- slots that stay bound to what the caller handed in -/
abbrev Bw := Nat → Bool
def Kb (B : Bw) (σ σ' : Sg) : Prop := ∀ j, B j = true → σ'[j]? = σ[j]?
theorem Kb.refl {B : Bw} {σ : Sg} : Kb B σ σ := fun _ _ => rfl
theorem Kb.trans {B : Bw} {σ σ' σ'' : Sg} (a : Kb B σ σ') (b : Kb B σ' σ'') : Kb B σ σ'' := fun j h => (b j h).trans (a j h)
theorem Kb.set {B : Bw} {σ : Sg} {i : Nat} {v} (h : B i = false) : Kb B σ (σ.set i v) := fun j hj => by
  rw [List.getElem?_set_ne]
  intro e
  rw [e] at h
  rw [h] at hj
  cases hj
abbrev MS := M Fl
/-- a statement's reading -/
def TSm (G : Gm) (W : WX) (B : Bw) (m : MS) : TS := fun D σ H => ∃ S T r S', Ag S σ ∧ Own G H (cl S σ ++ T) ∧ m S = some (r, S') ∧
  match r with
  | .ok .nx => ∀ σ' H', Ag S' σ' → Own G H' (cl S' σ' ++ T) → Kb B σ σ' → D.nx σ' H'
  | .ok (.rt sh d) => ∀ v σ' H', Ag S' σ' → Own G H' (⟨sh, v, d⟩ :: (cl S' σ' ++ T)) → Kb B σ σ' → D.rt v H'
  | .ok .bk => ∀ σ' H', Ag S' σ' → Own G H' (cl S' σ' ++ T) → Kb B σ σ' → D.bk σ' H'
  | .ok .ct => ∀ σ' H', Ag S' σ' → Own G H' (cl S' σ' ++ T) → Kb B σ σ' → D.ct σ' H'
  | .error ex => ∀ cv od σ' H', Ag S' σ' → Own G H' (cl S' σ' ++ T) → Kb B σ σ' → ExAt G H' ex cv od → W cv od σ' H'

/-! the semantics -/
def sPass : MS := fun S => some (.ok .nx, S)
def sSet (B : Bw) (i : Nat) (m : M Rv) : MS := fun S => match m S with
  | none => none
  | some (.error e, S1) => some (.error e, S1)
  | some (.ok (.tmp sh d), S1) => if B i = true then none else if i < S1.length then some (.ok .nx, S1.set i (some (sh, d))) else none
  | _ => none
def sExpr (m : M Rv) : MS := fun S => match m S with
  | none => none
  | some (.error e, S1) => some (.error e, S1)
  | some (.ok _, S1) => some (.ok .nx, S1)
def sRet (m : M Rv) : MS := fun S => match m S with
  | none => none
  | some (.error e, S1) => some (.error e, S1)
  | some (.ok (.tmp sh d), S1) => some (.ok (.rt sh d), S1)
  | _ => none
def sRetN : MS := fun S => some (.ok (.rt .fz .non), S)
def sSeq (a b : MS) : MS := fun S => match a S with
  | some (.ok .nx, S1) => b S1
  | r => r
def sIf (c : M Bool) (a b : MS) : MS := fun S => match c S with
  | none => none
  | some (.error e, S1) => some (.error e, S1)
  | some (.ok true, S1) => a S1
  | some (.ok false, S1) => b S1
def sBreak : MS := fun S => some (.ok .bk, S)
def sCont : MS := fun S => some (.ok .ct, S)
/-- the name's thing is handed out: the slot is empty behind it -/
def mMove (i : Nat) : M Rv := fun S => match S[i]? with
  | some (some (sh, d)) => some (.ok (.tmp sh d), S.set i none)
  | _ => none

section
variable {X : Cx} {G : Gm} {W : WX} {B : Bw} {q q1 q2 : Bool}
theorem _root_.L2.PS.imp {X : Cx} {e : Stmt} {t t' : TS} (h : PS X e t) (i : ∀ D σ H, t' D σ H → t D σ H) : PS X e t' := ⟨fun pins s σ H D I q => h.run pins s σ H D I (i D σ H q)⟩
theorem _root_.L2.PSs.imp {X : Cx} {e : List Stmt} {t t' : TS} (h : PSs X e t) (i : ∀ D σ H, t' D σ H → t D σ H) : PSs X e t' := ⟨fun pins s σ H D I q => h.run pins s σ H D I (i D σ H q)⟩

theorem pe_mmove {i : Nat} {x : Str} {pos : Pos} (hN : X.N[i]? = some x) (hv : Vis X.env.scope x) (hd : (x == ("__debug__" : Str)) = false) (hcd : (x == ("__classdict__" : Str)) = false) : PE X (.Name x pos) (TEm G W false (mMove i)) := by
  refine (pe_var hN hv hd hcd).imp fun σ H Q h => ?_
  obtain ⟨S, T, r, S', ag, ow, e, k⟩ := h
  unfold mMove at e
  split at e
  · rename_i sh d hS
    cases e
    obtain ⟨v, hv⟩ := ag.get hS
    exact ⟨v, hv, k v H ag.unset (ow.perm ((cl_get hS hv).append_right T)) trivial fun _ => Same.refl H⟩
  · cases e
theorem ps_mpass {pos : Pos} : PS X (.Pass pos) (TSm G W B sPass) := ps_pass.imp fun D σ H h => by
  obtain ⟨S, T, r, S', ag, ow, e, k⟩ := h
  cases e
  exact k σ H ag ow Kb.refl
theorem ps_mbreak {pos : Pos} : PS X (.Break pos) (TSm G W B sBreak) := ps_break.imp fun D σ H h => by
  obtain ⟨S, T, r, S', ag, ow, e, k⟩ := h
  cases e
  exact k σ H ag ow Kb.refl
theorem ps_mcont {pos : Pos} : PS X (.Continue pos) (TSm G W B sCont) := ps_continue.imp fun D σ H h => by
  obtain ⟨S, T, r, S', ag, ow, e, k⟩ := h
  cases e
  exact k σ H ag ow Kb.refl
theorem ps_mretN {pos : Pos} : PS X (.Return none pos) (TSm G W B sRetN) := ps_retN.imp fun D σ H h => by
  obtain ⟨S, T, r, S', ag, ow, e, k⟩ := h
  cases e
  exact k .non σ H ag (Own.nonC ow) Kb.refl
theorem tsm_set {D : Ends} {σ : Sg} {H : Hp} {i : Nat} {m : M Rv} (h : TSm G W B (sSet B i m) D σ H) : tAsg (TEm G W q m) (gName i) D σ H := by
  obtain ⟨S, T, r, S', ag, ow, e, k⟩ := h
  unfold sSet at e
  split at e
  · cases e
  · rename_i e1
    cases e
    exact ⟨S, T, _, _, ag, ow, e1, fun cv od H' a1 a2 x => k cv od σ H' a1 a2 Kb.refl x⟩
  · rename_i sh d S1 e1
    split at e
    · cases e
    · rename_i hB
      split at e
      · rename_i hl
        cases e
        refine ⟨S, T, _, _, ag, ow, e1, fun v H' a1 a2 _ _ => ?_⟩
        exact k _ H' (a1.store) (Own.store a1 hl a2) (Kb.set (by simpa using hB))
      · cases e
  · cases e
theorem ps_mset {i : Nat} {x : Str} {e : Expr} {m : M Rv} {pos pos' : Pos} (hN : X.N.Nodup) (hi : X.N[i]? = some x) (hx : Loc X.env.scope x) (he : PE X e (TEm G W q m)) (hs : swapsWith e (some (.Name x pos')) pos.line X.env = pure false) (hf : X.fn x = true ∨ X.env.scope.names.lookup x = some .local) :
    PS X (.Assign [.Name x pos'] e pos) (TSm G W B (sSet B i m)) := (ps_set hN hi hx he hs hf).imp fun _ _ _ h => tsm_set h
theorem ps_mexpr {e : Expr} {m : M Rv} {pos : Pos} (he : PE X e (TEm G W q m)) (hs : swapsWith e none pos.line X.env = pure false) : PS X (.Expr e pos) (TSm G W B (sExpr m)) := (ps_expr he hs).imp fun D σ H h => by
  obtain ⟨S, T, r, S', ag, ow, e, k⟩ := h
  unfold sExpr at e
  split at e
  · cases e
  · rename_i e1
    cases e
    exact ⟨S, T, _, _, ag, ow, e1, fun cv od H' a1 a2 x => k cv od σ H' a1 a2 Kb.refl x⟩
  · rename_i rv S1 e1
    cases e
    exact ⟨S, T, _, _, ag, ow, e1, fun v H' a1 a2 _ _ => k σ H' a1 a2.drop Kb.refl⟩
theorem ps_mret {e : Expr} {m : M Rv} {pos : Pos} (he : PE X e (TEm G W q m)) : PS X (.Return (some e) pos) (TSm G W B (sRet m)) := (ps_ret he).imp fun D σ H h => by
  obtain ⟨S, T, r, S', ag, ow, e, k⟩ := h
  unfold sRet at e
  split at e
  · cases e
  · rename_i e1
    cases e
    exact ⟨S, T, _, _, ag, ow, e1, fun cv od H' a1 a2 x => k cv od σ H' a1 a2 Kb.refl x⟩
  · rename_i rv S1 e1
    cases e
    exact ⟨S, T, _, _, ag, ow, e1, fun v H' a1 a2 _ _ => k v σ H' a1 a2 Kb.refl⟩
  · cases e
theorem tsm_seq {a b : MS} {D : Ends} {σ : Sg} {H : Hp} (h : TSm G W B (sSeq a b) D σ H) : tSeq (TSm G W B a) (TSm G W B b) D σ H := by
  obtain ⟨S, T, r, S', ag, ow, e, k⟩ := h
  unfold sSeq at e
  split at e
  · rename_i S1 e1
    refine ⟨S, T, _, _, ag, ow, e1, fun σ1 H1 a1 a2 kb => ?_⟩
    refine ⟨S1, T, r, S', a1, a2, e, ?_⟩
    cases r with
    | error ex => exact fun cv od σ' H' b1 b2 kb' x => k cv od σ' H' b1 b2 (kb.trans kb') x
    | ok f => cases f with
      | nx => exact fun σ' H' b1 b2 kb' => k σ' H' b1 b2 (kb.trans kb')
      | bk => exact fun σ' H' b1 b2 kb' => k σ' H' b1 b2 (kb.trans kb')
      | ct => exact fun σ' H' b1 b2 kb' => k σ' H' b1 b2 (kb.trans kb')
      | rt sh d => exact fun v σ' H' b1 b2 kb' => k v σ' H' b1 b2 (kb.trans kb')
  · rename_i hne
    refine ⟨S, T, r, S', ag, ow, e, ?_⟩
    cases r with
    | error ex => exact k
    | ok f => cases f with
      | nx => exact absurd e (hne S')
      | bk => exact k
      | ct => exact k
      | rt sh d => exact k
theorem pss_mnil : PSs X [] (TSm G W B sPass) := pss_nil.imp fun D σ H h => by
  obtain ⟨S, T, r, S', ag, ow, e, k⟩ := h
  cases e
  exact k σ H ag ow Kb.refl
theorem pss_mcons {st : Stmt} {rest : List Stmt} {a b : MS} (h : PS X st (TSm G W B a)) (h' : PSs X rest (TSm G W B b)) : PSs X (st :: rest) (TSm G W B (sSeq a b)) := (pss_cons h h').imp fun _ _ _ h => tsm_seq h
theorem tsm_if {c : M Bool} {a b : MS} {D : Ends} {σ : Sg} {H : Hp} (h : TSm G W B (sIf c a b) D σ H) : tIfS (TTm G W q c) (TSm G W B a) (TSm G W B b) D σ H := by
  obtain ⟨S, T, r, S', ag, ow, e, k⟩ := h
  unfold sIf at e
  split at e
  · cases e
  · rename_i e1
    cases e
    exact ⟨S, T, _, _, ag, ow, e1, fun cv od H' a1 a2 x => k cv od σ H' a1 a2 Kb.refl x⟩
  · rename_i S1 e1
    refine ⟨S, T, _, _, ag, ow, e1, fun H1 a1 a2 _ => ?_⟩
    refine iteT ?_
    exact ⟨S1, T, r, S', a1, a2, e, k⟩
  · rename_i S1 e1
    refine ⟨S, T, _, _, ag, ow, e1, fun H1 a1 a2 _ => ?_⟩
    refine iteF ?_
    exact ⟨S1, T, r, S', a1, a2, e, k⟩
theorem ps_mif {c : Expr} {a b : List Stmt} {mc : M Bool} {ma mb : MS} {pos : Pos} (hc : PT X c (TTm G W q mc)) (ha : PSs X a (TSm G W B ma)) (hb : PSs X b (TSm G W B mb)) : PS X (.If c a b pos) (TSm G W B (sIf mc ma mb)) := (ps_if hc ha hb).imp fun _ _ _ h => tsm_if h

/-! while: it ends after some number of turns -/
def whileN (c : M Bool) (b : MS) : Nat → MS
  | 0 => fun _ => none
  | n + 1 => fun S => match c S with
    | none => none
    | some (.error e, S1) => some (.error e, S1)
    | some (.ok false, S1) => some (.ok .nx, S1)
    | some (.ok true, S1) => match b S1 with
      | none => none
      | some (.error e, S2) => some (.error e, S2)
      | some (.ok .bk, S2) => some (.ok .nx, S2)
      | some (.ok (.rt sh d), S2) => some (.ok (.rt sh d), S2)
      | some (.ok _, S2) => whileN c b n S2
open Classical in
noncomputable def sWhile (c : M Bool) (b : MS) : MS := fun S => if h : ∃ n r, whileN c b n S = some r then some h.choose_spec.choose else none
theorem sWhile_some {c : M Bool} {b : MS} {S r} (h : sWhile c b S = some r) : ∃ n, whileN c b n S = some r := by
  unfold sWhile at h
  split at h
  · rename_i x
    refine ⟨x.choose, ?_⟩
    have := x.choose_spec.choose_spec
    rw [this]
    exact h
  · cases h
theorem whileN_mono {c : M Bool} {b : MS} : ∀ {n m S r}, whileN c b n S = some r → n ≤ m → whileN c b m S = some r
  | 0, _, _, _, h, _ => by cases h
  | n + 1, 0, _, _, _, h => by omega
  | n + 1, m + 1, S, r, h, hl => by
    unfold whileN at h ⊢
    split at h
    · cases h
    · exact h
    · exact h
    · split at h
      · cases h
      · exact h
      · exact h
      · exact h
      · rename_i f S2 hb hr e2
        cases f with
        | nx => exact whileN_mono h (by omega)
        | ct => exact whileN_mono h (by omega)
        | bk => exact (hb rfl).elim
        | rt sh d => exact (hr _ _ rfl).elim
theorem sWhile_of {c : M Bool} {b : MS} {S r n} (h : whileN c b n S = some r) : sWhile c b S = some r := by
  unfold sWhile
  have x : ∃ n r, whileN c b n S = some r := ⟨n, r, h⟩
  rw [dif_pos x]
  have h1 := x.choose_spec.choose_spec
  have a1 := whileN_mono h1 (Nat.le_max_left _ n)
  have a2 := whileN_mono h (Nat.le_max_right x.choose n)
  rw [a1] at a2
  exact a2
end
end Dt

/-! Loops, targets, comprehensions. -/
namespace Dt
open PySem PySem.Spec PyProof.Rows L2

/-! targets -/
inductive Tg where
  | nm (i : Nat)
  | tu (is : List Nat)
def bind1 (B : Bw) (i : Nat) (d : D) (S : List Slot) : Option (List Slot) :=
  if B i = true then none else if i < S.length then some (S.set i (some (.fz, d))) else none
def bindAll (B : Bw) : List Nat → List D → List Slot → Option (List Slot)
  | [], [], S => some S
  | i :: is, d :: ds, S => match bind1 B i d S with
    | some S1 => bindAll B is ds S1
    | none => none
  | _, _, _ => none
/-- a frozen thing goes to the target -/
def bindT (B : Bw) : Tg → D → List Slot → Option (List Slot)
  | .nm i, d, S => bind1 B i d S
  | .tu is, .tup ds, S => bindAll B is ds S
  | _, _, _ => none
def Tg.slots : Tg → List Nat
  | .nm i => [i]
  | .tu is => is
/-- only the slots l may have changed -/
def Only1 (l : List Nat) (σ σ' : Sg) : Prop := σ'.length = σ.length ∧ ∀ j, j ∉ l → σ'[j]? = σ[j]?
def TGm (G : Gm) (B : Bw) (t : Tg) : TG := fun v σ H Q => ∃ S T d S', Ag S σ ∧ Own G H (⟨.fz, v, d⟩ :: (cl S σ ++ T)) ∧ bindT B t d S = some S' ∧
  ∀ σ', Ag S' σ' → Own G H (cl S' σ' ++ T) → Kb B σ σ' → Only1 t.slots σ σ' → Q σ' H
def TGms (G : Gm) (B : Bw) (is : List Nat) : TGs := fun vs σ H Q => ∃ S T ds S', Ag S σ ∧ (∃ O, OwnO G H (cl S σ ++ T) O ∧ RFs G (fun a => a ∉ O) H vs ds) ∧ bindAll B is ds S = some S' ∧
  ∀ σ', Ag S' σ' → Own G H (cl S' σ' ++ T) → Kb B σ σ' → Only1 is σ σ' → Q σ' H
section
variable {X : Cx} {G : Gm} {W : WX} {B : Bw} {q q1 q2 : Bool}
theorem _root_.L2.PG.imp {X : Cx} {e : Expr} {t t' : TG} (h : PG X e t) (i : ∀ v σ H Q, t' v σ H Q → t v σ H Q) : PG X e t' := ⟨fun pins s σ H v u Q I r q => h.run pins s σ H v u Q I r (i v σ H Q q)⟩
theorem _root_.L2.PGs.imp {X : Cx} {e : List Expr} {t t' : TGs} (h : PGs X e t) (i : ∀ v σ H Q, t' v σ H Q → t v σ H Q) : PGs X e t' := ⟨fun pins s σ H v u Q I r q => h.run pins s σ H v u Q I r (i v σ H Q q)⟩
theorem pg_mname {i : Nat} {x : Str} {pos : Pos} (hN : X.N.Nodup) (hi : X.N[i]? = some x) (hx : Loc X.env.scope x) (hf : X.fn x = true ∨ X.env.scope.names.lookup x = some .local) : PG X (.Name x pos) (TGm G B (.nm i)) := (pg_name hN hi hx hf).imp fun v σ H Q h => by
  obtain ⟨S, T, d, S', ag, ow, e, k⟩ := h
  have e : bind1 B i d S = some S' := e
  unfold bind1 at e
  split at e
  · cases e
  · rename_i hB
    split at e
    · rename_i hl
      cases e
      refine k _ ag.store (Own.store ag hl ow) (Kb.set (by simpa using hB)) ⟨by simp, fun j hj => ?_⟩
      rw [List.getElem?_set_ne]
      intro z
      exact hj (by simp [Tg.slots, z])
    · cases e
theorem pgs_mnil : PGs X [] (TGms G B []) := pgs_nil.imp fun vs σ H Q h => by
  obtain ⟨S, T, ds, S', ag, ⟨O, ow, r⟩, e, k⟩ := h
  cases ds with
  | nil =>
    cases e
    cases r
    exact ⟨rfl, k σ ag ⟨O, ow⟩ Kb.refl ⟨rfl, fun _ _ => rfl⟩⟩
  | cons d ds => cases e
theorem pgs_mcons {i : Nat} {is : List Nat} {e : Expr} {es : List Expr} (h1 : PG X e (TGm G B (.nm i))) (h2 : PGs X es (TGms G B is))
    (hs : (assignEach (e :: es) X.env).map (·.2) = assign e X.env :: (assignEach es X.env).map (·.2)) : PGs X (e :: es) (TGms G B (i :: is)) := (pgs_cons h1 h2 hs).imp fun vs σ H Q h => by
  obtain ⟨S, T, ds, S', ag, ⟨O, ow, r⟩, e, k⟩ := h
  cases ds with
  | nil => cases e
  | cons d ds => cases r with
    | @cons v _ vs _ rv r =>
      refine ⟨v, vs, rfl, ?_⟩
      have e : (match bind1 B i d S with | some S1 => bindAll B is ds S1 | none => none) = some S' := e
      cases e1 : bind1 B i d S with
      | none => rw [e1] at e; cases e
      | some S1 =>
        rw [e1] at e
        -- the other items are kept as claims
        obtain ⟨A, w, ea, ed⟩ := r.cls
        have o2 : Own G H (⟨.fz, v, d⟩ :: (cl S σ ++ (A ++ T))) := by
          have := (RTs.ofs (L := A) (by rw [ea, ed]; exact r) w).append ow.1
          have q1 : OwnO G H (A ++ (cl S σ ++ T)) O := ⟨by simpa using this, ow.2⟩
          have q2 : Own G H (⟨.fz, v, d⟩ :: (A ++ (cl S σ ++ T))) := ⟨O, q1.cons rv⟩
          exact q2.perm ((perm3 A (cl S σ) T).cons _)
        refine ⟨S, A ++ T, d, S1, ag, o2, e1, fun σ1 a1 ow1 kb1 on1 => ?_⟩
        obtain ⟨O1, ow1⟩ := ow1
        have ow1' : Own G H (A ++ (cl S1 σ1 ++ T)) := Own.perm (perm3 _ _ _) ⟨O1, ow1⟩
        obtain ⟨O2, ow2⟩ := ow1'
        obtain ⟨rA, ow3⟩ := ow2.heads w
        rw [ea, ed] at rA
        refine ⟨S1, T, ds, S', a1, ⟨O2, ow3, rA⟩, e, fun σ2 a2 o2 kb2 on2 => k σ2 a2 o2 (kb1.trans kb2) ⟨on2.1.trans on1.1, fun j hj => ?_⟩⟩
        rw [on2.2 j (fun z => hj (by simp [z])), on1.2 j (fun z => hj (by simp [Tg.slots] at z; simp [z]))]
theorem bindAll_len {is : List Nat} : ∀ {ds : List D} {S S' : List Slot}, bindAll B is ds S = some S' → is.length = ds.length := by
  induction is with
  | nil => intro ds S S' h; cases ds with
    | nil => rfl
    | cons => cases h
  | cons i is ih => intro ds S S' h; cases ds with
    | nil => cases h
    | cons d ds =>
      have e : (match bind1 B i d S with | some S1 => bindAll B is ds S1 | none => none) = some S' := h
      cases e1 : bind1 B i d S with
      | none => rw [e1] at e; cases e
      | some S1 => rw [e1] at e; simp [ih e]
theorem pg_mtup {is : List Nat} {es : List Expr} {k : Nat} {pos : Pos} (hK : X.K = G.K) (hc : X.calm = true) (h : PGs X es (TGms G B is))
    (hn : (assignEach es X.env).length = is.length) (hst : (assignEach es X.env).findIdx? (·.1) = none) : PG X (.Tuple es k pos) (TGm G B (.tu is)) := (pg_tup hc h hn hst).imp fun v σ H Q h => by
  obtain ⟨S, T, d, S', ag, ow, e, k⟩ := h
  cases d with
  | tup ds =>
    obtain ⟨O, ow⟩ := ow
    obtain ⟨rf, ow'⟩ := ow.head
    obtain ⟨a, vs, rfl, t, r⟩ := RX.tup_at (.fz rf)
    have e : bindAll B is ds S = some S' := e
    exact ⟨a, vs, rfl, by rw [hK]; exact t, by rw [r.length, bindAll_len e], S, T, ds, S', ag, ⟨O, ow', r⟩, e, fun σ' a1 a2 a3 a4 => k σ' a1 a2 a3 a4⟩
  | _ => cases e

/-! what is walked: T0 holds it, ds are its items -/
def ItOk (G : Gm) (J : It) (T0 : List Cl) (ds : List D) : Prop := ∀ (H : Hp) (L : List Cl) (i : Nat), Own G H (T0 ++ L) →
  (∀ d, ds[i]? = some d → J.go i H ∧ ∀ x H', J.yld i H x H' → Own G H' (⟨.fz, x, d⟩ :: (T0 ++ L))) ∧ (ds.length ≤ i → J.stop i H)
def TIm (G : Gm) (W : WX) (m : M (List D)) : TI := fun σ H R => ∃ S T r S', Ag S σ ∧ Own G H (cl S σ ++ T) ∧ m S = some (r, S') ∧
  match r with
  | .ok ds => ∀ J T0 H', ItOk G J T0 ds → Ag S' σ → Own G H' (T0 ++ (cl S' σ ++ T)) → R J H'
  | .error ex => ∀ cv od H', Ag S' σ → Own G H' (cl S' σ ++ T) → ExAt G H' ex cv od → W cv od σ H'
theorem _root_.L2.PI.imp {X : Cx} {tg e : Expr} {t t' : TI} (h : PI X tg e t) (i : ∀ σ H R, t' σ H R → t σ H R) : PI X tg e t' := ⟨fun pins s σ H R I q => h.run pins s σ H R I (i σ H R q)⟩
theorem _root_.L2.PI.or {X : Cx} {tg e : Expr} {t t' : TI} (h : PI X tg e t) (h' : PI X tg e t') : PI X tg e (fun σ H R => t σ H R ∨ t' σ H R) := ⟨fun pins s σ H R I q => by
  rcases q with q | q
  · exact h.run pins s σ H R I q
  · exact h'.run pins s σ H R I q⟩
/-- a list, a tuple: its items now; it is frozen -/
def iSeq (m : M Rv) : M (List D) := fun S => match m S with
  | none => none
  | some (.error e, S1) => some (.error e, S1)
  | some (.ok (.tmp sh (.lst ds)), S1) => if sh.whole = true then some (.ok ds, S1) else none
  | some (.ok (.tmp sh (.tup ds)), S1) => if sh.whole = true then some (.ok ds, S1) else none
  | _ => none
theorem itok_lst {a : Addr} {ds : List D} : ItOk G (Itl G.K a) [⟨.fz, .ref a, .lst ds⟩] ds := fun H L i h => by
  obtain ⟨O, o⟩ := h
  obtain ⟨rf, o'⟩ := o.head
  obtain ⟨b, vs, e, s, r⟩ := RX.lst_at (.fz rf)
  cases e
  refine ⟨fun d hd => ?_, fun hl => ⟨vs, s, by rw [r.length]; exact hl⟩⟩
  obtain ⟨v, hv, rv⟩ := r.get hd
  refine ⟨⟨vs, v, s, hv⟩, fun x H' y => ?_⟩
  obtain ⟨e, y⟩ := y
  subst e
  have := y vs s
  rw [hv] at this
  cases this
  exact ⟨O, o.cons rv⟩
theorem itok_tup {a : Addr} {ds : List D} : ItOk G (Itt G.K a) [⟨.fz, .ref a, .tup ds⟩] ds := fun H L i h => by
  obtain ⟨O, o⟩ := h
  obtain ⟨rf, o'⟩ := o.head
  obtain ⟨b, vs, e, s, r⟩ := RX.tup_at (.fz rf)
  cases e
  refine ⟨fun d hd => ?_, fun hl => ⟨vs, s, by rw [r.length]; exact hl⟩⟩
  obtain ⟨v, hv, rv⟩ := r.get hd
  refine ⟨⟨vs, v, s, hv⟩, fun x H' y => ?_⟩
  obtain ⟨e, y⟩ := y
  subst e
  have := y vs s
  rw [hv] at this
  cases this
  exact ⟨O, o.cons rv⟩
theorem pi_mseq {tg l : Expr} {m : M Rv} (hK : X.K = G.K) (hl : PE X l (TEm G W q m)) : PI X tg l (TIm G W (iSeq m)) := (PI.or (pi_list hl) (pi_tup hl)).imp fun σ H R h => by
  obtain ⟨S, T, r, S', ag, ow, e, k⟩ := h
  unfold iSeq at e
  split at e
  · cases e
  · rename_i e1
    cases e
    exact .inl ⟨S, T, _, _, ag, ow, e1, k⟩
  · rename_i sh ds S1 e1
    split at e
    · rename_i w
      cases e
      refine .inl ⟨S, T, _, _, ag, ow, e1, fun v H' a1 a2 _ _ => ?_⟩
      have a3 : Own G H' (⟨.fz, v, .lst ds⟩ :: (cl S' σ ++ T)) := Own.freeze w a2
      obtain ⟨O, o⟩ := id a3
      obtain ⟨a, vs, rfl, s, _⟩ := RX.lst_at (.fz o.head.1)
      rw [hK]
      exact ⟨a, rfl, ⟨vs, s⟩, k _ _ H' itok_lst a1 a3⟩
    · cases e
  · rename_i sh ds S1 e1
    split at e
    · rename_i w
      cases e
      refine .inr ⟨S, T, _, _, ag, ow, e1, fun v H' a1 a2 _ _ => ?_⟩
      have a3 : Own G H' (⟨.fz, v, .tup ds⟩ :: (cl S' σ ++ T)) := Own.freeze w a2
      obtain ⟨O, o⟩ := id a3
      obtain ⟨a, vs, rfl, s, _⟩ := RX.tup_at (.fz o.head.1)
      rw [hK]
      exact ⟨a, rfl, ⟨vs, s⟩, k _ _ H' itok_tup a1 a3⟩
    · cases e
  · cases e
/-- range(b), range(a, b) -/
def rangeD (lo : Int) (n : Nat) : List D := (List.range n).map fun (i : Nat) => .int (lo + (i : Int))
theorem itok_rng {lo : Int} {n : Nat} : ItOk G (Itr lo n) [] (rangeD lo n) := fun H L i h => by
  refine ⟨fun d hd => ?_, fun hl => (show n ≤ i by simpa [rangeD] using hl)⟩
  unfold rangeD at hd
  rw [List.getElem?_map] at hd
  by_cases hi : i < n
  · rw [List.getElem?_range hi] at hd
    cases hd
    refine ⟨hi, fun x H' y => ?_⟩
    obtain ⟨e, y⟩ := y
    subst e y
    exact Own.intC _ h
  · rw [List.getElem?_eq_none (by simpa using hi)] at hd
    cases hd
def okRg (i : Int) : Bool := decide (-(2 ^ 62) ≤ i ∧ i < 2 ^ 62)
def iRng (m : M (List Rv)) : M (List D) := fun S => match m S with
  | none => none
  | some (.error e, S1) => some (.error e, S1)
  | some (.ok rs, S1) => match seeAll S1 rs with
    | some [.int j] => if okRg j = true then some (.ok (rangeD 0 j.toNat), S1) else none
    | some [.int i, .int j] => if okRg i = true ∧ okRg j = true then some (.ok (rangeD i (j - i).toNat), S1) else none
    | _ => none
theorem okRg_at {i : Int} (h : okRg i = true) : -(2 ^ 62) ≤ i ∧ i < 2 ^ 62 := of_decide_eq_true h
theorem tim_rng {σ : Sg} {H : Hp} {R : It → Hp → Prop} {m : M (List Rv)} (h : TIm G W (iRng m) σ H R) : TAm G W q m σ H fun vs H1 =>
    (∃ j : Int, vs = [.int j] ∧ -(2 ^ 62) ≤ j ∧ j < 2 ^ 62 ∧ R (Itr 0 j.toNat) H1) ∨ (∃ i j : Int, vs = [.int i, .int j] ∧ (-(2 ^ 62) ≤ i ∧ i < 2 ^ 62 ∧ -(2 ^ 62) ≤ j ∧ j < 2 ^ 62) ∧ R (Itr i (j - i).toNat) H1) := by
  obtain ⟨S, T, r, S', ag, ow, e, k⟩ := h
  unfold iRng at e
  split at e
  · cases e
  · rename_i e1
    cases e
    exact ⟨S, T, _, _, ag, ow, e1, k⟩
  · rename_i rs S1 e1
    refine ⟨S, T, _, _, ag, ow, e1, fun vs H1 a1 a2 a3 _ => ?_⟩
    obtain ⟨O, o⟩ := id a2
    split at e
    · rename_i j e2
      split at e
      · rename_i c
        cases e
        have rx := see_rxs a1 o (fun t ht => ht) a3 e2
        cases rx with
        | cons h1 rx => cases rx with
          | nil =>
            cases h1.int_at
            have c := okRg_at c
            exact .inl ⟨j, rfl, c.1, c.2, k _ [] H1 itok_rng a1 (Own.drop a2)⟩
      · cases e
    · rename_i i j e2
      split at e
      · rename_i c
        cases e
        have rx := see_rxs a1 o (fun t ht => ht) a3 e2
        cases rx with
        | cons h1 rx => cases rx with
          | cons h2 rx => cases rx with
            | nil =>
              cases h1.int_at
              cases h2.int_at
              have c1 := okRg_at c.1
              have c2 := okRg_at c.2
              exact .inr ⟨i, j, rfl, ⟨c1.1, c1.2, c2.1, c2.2⟩, k _ [] H1 itok_rng a1 (Own.drop a2)⟩
      · cases e
    · cases e
theorem tam_mono {m : M (List Rv)} {σ : Sg} {H : Hp} {Q Q' : List V → Hp → Prop} (h : TAm G W q m σ H Q) (i : ∀ v H, Q v H → Q' v H) : TAm G W q m σ H Q' := by
  obtain ⟨S, T, r, S', ag, ow, e, k⟩ := h
  refine ⟨S, T, r, S', ag, ow, e, ?_⟩
  cases r with
  | ok rv => exact fun v H' x1 x2 x3 x4 => i v H' (k v H' x1 x2 x3 x4)
  | error ex => exact k
theorem clsA_len {rs : List Rv} : ∀ {vs : List V} {σ : Sg} {H : Hp}, okA G σ H rs vs → vs.length = rs.length := by
  induction rs with
  | nil => intro vs σ H h; cases vs with
    | nil => rfl
    | cons => exact h.elim
  | cons r rs ih => intro vs σ H h; cases vs with
    | nil => exact h.elim
    | cons v vs => simp [ih h.2]
theorem mArgs_len : ∀ {ms : List (Bool × M Rv)} {S rs S'}, mArgs ms S = some (.ok rs, S') → rs.length = ms.length
  | [], S, rs, S', h => by cases h; rfl
  | (q, m) :: ms, S, rs, S', h => by
    unfold mArgs at h
    split at h
    · cases h
    · cases h
    · split at h
      · cases h
      · cases h
      · rename_i h2
        split at h
        · cases h
          simp [mArgs_len h2]
        · cases h
theorem pi_mrng1 {tg a : Expr} {p pos : Pos} {m : M Rv} (hg : Gl X "range") (hm : X.mg "range" = none) (ha : PE X a (TEm G W q m)) (hs : starEach [a] X.env = [(false, eval a X.env)]) : PI X tg (.Call (.Name "range" p) [a] [] pos) (TIm G W (iRng (mArgs [(q, m)]))) := by
  have pa : PA X [a] (TAm G W (([(q, m)] : List (Bool × M Rv)).all (·.1)) (mArgs [(q, m)])) := pa_mcons ha pa_mnil hs
  refine (pi_range1 hg hm pa hs).imp fun σ H R h => ?_
  have h1 := tim_rng (q := ([(q, m)] : List (Bool × M Rv)).all (·.1)) h
  obtain ⟨S, T, r, S', ag, ow, e, k⟩ := h1
  refine ⟨S, T, r, S', ag, ow, e, ?_⟩
  cases r with
  | error ex => exact k
  | ok rs =>
      intro vs H' x1 x2 x3 x4
      rcases k vs H' x1 x2 x3 x4 with h | ⟨i, j, e', _⟩
      · exact h
      · have l1 := clsA_len x3
        have l2 := mArgs_len e
        rw [e'] at l1
        simp at l1 l2
        omega
theorem pi_mrng2 {tg a b : Expr} {p pos : Pos} {m m' : M Rv} (hg : Gl X "range") (hm : X.mg "range" = none) (ha : PE X a (TEm G W q1 m)) (hb : PE X b (TEm G W q2 m')) (hs : starEach [a, b] X.env = [(false, eval a X.env), (false, eval b X.env)]) (hs2 : starEach [b] X.env = [(false, eval b X.env)]) :
    PI X tg (.Call (.Name "range" p) [a, b] [] pos) (TIm G W (iRng (mArgs [(q1, m), (q2, m')]))) := by
  have pa : PA X [a, b] (TAm G W (([(q1, m), (q2, m')] : List (Bool × M Rv)).all (·.1)) (mArgs [(q1, m), (q2, m')])) := pa_mcons ha (pa_mcons hb pa_mnil hs2) (by rw [hs, hs2])
  refine (pi_range2 hg hm pa hs hs2).imp fun σ H R h => ?_
  have h1 := tim_rng (q := ([(q1, m), (q2, m')] : List (Bool × M Rv)).all (·.1)) h
  obtain ⟨S, T, r, S', ag, ow, e, k⟩ := h1
  refine ⟨S, T, r, S', ag, ow, e, ?_⟩
  cases r with
  | error ex => exact k
  | ok rs =>
      intro vs H' x1 x2 x3 x4
      rcases k vs H' x1 x2 x3 x4 with ⟨j, e', _⟩ | h
      · have l1 := clsA_len x3
        have l2 := mArgs_len e
        rw [e'] at l1
        simp at l1 l2
        omega
      · exact h
end
end Dt

/-! while, for, list comprehensions, assignments to targets. -/
namespace Dt
open PySem PySem.Spec PyProof.Rows L2

/-- the body for each item -/
def forN (B : Bw) (t : Tg) (b : MS) : List D → MS
  | [] => fun S => some (.ok .nx, S)
  | d :: ds => fun S => match bindT B t d S with
    | none => none
    | some S1 => match b S1 with
      | none => none
      | some (.error e, S2) => some (.error e, S2)
      | some (.ok .bk, S2) => some (.ok .nx, S2)
      | some (.ok (.rt sh d), S2) => some (.ok (.rt sh d), S2)
      | some (.ok _, S2) => forN B t b ds S2
def sFor (B : Bw) (t : Tg) (mi : M (List D)) (b : MS) : MS := fun S => match mi S with
  | none => none
  | some (.error e, S1) => some (.error e, S1)
  | some (.ok ds, S1) => forN B t b ds S1
/-- a tuple's items to names -/
def sBind (B : Bw) (t : Tg) (m : M Rv) : MS := fun S => match m S with
  | none => none
  | some (.error e, S1) => some (.error e, S1)
  | some (.ok (.tmp sh d), S1) => if sh.whole = true then match bindT B t d S1 with
      | some S2 => some (.ok .nx, S2)
      | none => none
    else none
  | _ => none

section
variable {X : Cx} {G : Gm} {W : WX} {B : Bw} {q q1 q2 : Bool}
/-- what a statement's end must give, behind T' ++ T with T' dropped -/
def EndOk (G : Gm) (W : WX) (B : Bw) (D : Ends) (σ : Sg) (T : List Cl) (S' : List Slot) : Except Exc Fl → Prop
  | .ok .nx => ∀ σ' H', Ag S' σ' → Own G H' (cl S' σ' ++ T) → Kb B σ σ' → D.nx σ' H'
  | .ok (.rt sh d) => ∀ v σ' H', Ag S' σ' → Own G H' (⟨sh, v, d⟩ :: (cl S' σ' ++ T)) → Kb B σ σ' → D.rt v H'
  | .ok .bk => ∀ σ' H', Ag S' σ' → Own G H' (cl S' σ' ++ T) → Kb B σ σ' → D.bk σ' H'
  | .ok .ct => ∀ σ' H', Ag S' σ' → Own G H' (cl S' σ' ++ T) → Kb B σ σ' → D.ct σ' H'
  | .error ex => ∀ cv od σ' H', Ag S' σ' → Own G H' (cl S' σ' ++ T) → Kb B σ σ' → ExAt G H' ex cv od → W cv od σ' H'
theorem tsm_iff {m : MS} {D : Ends} {σ : Sg} {H : Hp} : TSm G W B m D σ H ↔ ∃ S T r S', Ag S σ ∧ Own G H (cl S σ ++ T) ∧ m S = some (r, S') ∧ EndOk G W B D σ T S' r := by
  constructor
  · rintro ⟨S, T, r, S', ag, ow, e, k⟩
    refine ⟨S, T, r, S', ag, ow, e, ?_⟩
    cases r with
    | error ex => exact k
    | ok f => cases f <;> exact k
  · rintro ⟨S, T, r, S', ag, ow, e, k⟩
    refine ⟨S, T, r, S', ag, ow, e, ?_⟩
    cases r with
    | error ex => exact k
    | ok f => cases f <;> exact k
theorem EndOk.at {D : Ends} {σ σ1 : Sg} {T T1 : List Cl} {S' : List Slot} {r : Except Exc Fl} (k : EndOk G W B D σ T S' r) (kb : Kb B σ σ1) : EndOk G W B D σ1 (T1 ++ T) S' r := by
  cases r with
  | error ex => exact fun cv od σ' H' a1 a2 a3 x => k cv od σ' H' a1 a2.dropMid (kb.trans a3) x
  | ok f => cases f with
    | nx => exact fun σ' H' a1 a2 a3 => k σ' H' a1 a2.dropMid (kb.trans a3)
    | bk => exact fun σ' H' a1 a2 a3 => k σ' H' a1 a2.dropMid (kb.trans a3)
    | ct => exact fun σ' H' a1 a2 a3 => k σ' H' a1 a2.dropMid (kb.trans a3)
    | rt sh d =>
      intro v σ' H' a1 a2 a3
      refine k v σ' H' a1 ?_ (kb.trans a3)
      exact Own.dropMid (A := ⟨sh, v, d⟩ :: cl S' σ') a2

theorem tsm_while {c : M Bool} {b : MS} {D : Ends} {σ : Sg} {H : Hp} (h : TSm G W B (sWhile c b) D σ H) : tWhile (TTm G W q c) (TSm G W B b) D σ H := by
  obtain ⟨S, T, r, S', ag, ow, e, k⟩ := tsm_iff.mp h
  obtain ⟨n, en⟩ := sWhile_some e
  refine ⟨fun n σ1 H1 => ∃ S1, Ag S1 σ1 ∧ Own G H1 (cl S1 σ1 ++ T) ∧ Kb B σ σ1 ∧ whileN c b n S1 = some (r, S'), ⟨n, S, ag, ow, Kb.refl, en⟩, ?_⟩
  rintro m σ1 H1 ⟨S1, a1, o1, kb1, e1⟩
  cases m with
  | zero => cases e1
  | succ m =>
    unfold whileN at e1
    split at e1
    · cases e1
    · rename_i ex S2 e2
      cases e1
      exact ⟨S1, T, _, _, a1, o1, e2, fun cv od H' x1 x2 x => k cv od σ1 H' x1 x2 kb1 x⟩
    · rename_i S2 e2
      cases e1
      refine ⟨S1, T, _, _, a1, o1, e2, fun H' x1 x2 _ => ?_⟩
      refine iteF ?_
      exact k σ1 H' x1 x2 kb1
    · rename_i S2 e2
      refine ⟨S1, T, _, _, a1, o1, e2, fun H2 x1 x2 _ => ?_⟩
      refine iteT ?_
      refine ⟨fun σ3 H3 => ∃ S3, Ag S3 σ3 ∧ Own G H3 (cl S3 σ3 ++ T) ∧ Kb B σ σ3 ∧ whileN c b m S3 = some (r, S'), fun σ3 H3 w => ⟨m, Nat.lt_succ_self _, w⟩, ?_⟩
      rw [tsm_iff]
      split at e1
      · cases e1
      · rename_i e3
        cases e1
        exact ⟨S2, T, _, _, x1, x2, e3, fun cv od σ' H' y1 y2 y3 x => k cv od σ' H' y1 y2 (kb1.trans y3) x⟩
      · rename_i e3
        cases e1
        exact ⟨S2, T, _, _, x1, x2, e3, fun σ' H' y1 y2 y3 => k σ' H' y1 y2 (kb1.trans y3)⟩
      · rename_i e3
        cases e1
        exact ⟨S2, T, _, _, x1, x2, e3, fun v σ' H' y1 y2 y3 => k v σ' H' y1 y2 (kb1.trans y3)⟩
      · rename_i f S3 hb hr e3
        refine ⟨S2, T, _, _, x1, x2, e3, ?_⟩
        cases f with
        | nx => exact fun σ' H' y1 y2 y3 => ⟨S3, y1, y2, kb1.trans y3, e1⟩
        | ct => exact fun σ' H' y1 y2 y3 => ⟨S3, y1, y2, kb1.trans y3, e1⟩
        | bk => exact (hb rfl).elim
        | rt sh d => exact (hr _ _ rfl).elim
theorem ps_mwhile {c : Expr} {body : List Stmt} {mc : M Bool} {mb : MS} {pos : Pos} (hp : PassesOwn (model X.prog X.w) X.A X.env X.xe) (hc : PT X c (TTm G W q mc)) (hb : PSs X body (TSm G W B mb)) : PS X (.While c body [] pos) (TSm G W B (sWhile mc mb)) := (ps_while hp hc hb).imp fun _ _ _ h => tsm_while h

theorem tsm_for {t : Tg} {mi : M (List D)} {b : MS} {D : Ends} {σ : Sg} {H : Hp} (h : TSm G W B (sFor B t mi b) D σ H) : tFor (TIm G W mi) (TGm G B t) (TSm G W B b) D σ H := by
  obtain ⟨S, T, r, S', ag, ow, e, k⟩ := tsm_iff.mp h
  unfold sFor at e
  split at e
  · cases e
  · rename_i e1
    cases e
    exact ⟨S, T, _, _, ag, ow, e1, fun cv od H' x1 x2 x => k cv od σ H' x1 x2 Kb.refl x⟩
  · rename_i ds S0 e0
    refine ⟨S, T, _, _, ag, ow, e0, fun J T0 H0 it a0 o0 => ?_⟩
    have o0' : Own G H0 (cl S0 σ ++ (T0 ++ T)) := o0.perm (perm3 _ _ _)
    refine ⟨fun i m σ1 H1 => m + i = ds.length ∧ ∃ S1, Ag S1 σ1 ∧ Own G H1 (cl S1 σ1 ++ (T0 ++ T)) ∧ Kb B σ σ1 ∧ forN B t b (ds.drop i) S1 = some (r, S'), ⟨ds.length, by simp, S0, a0, o0', Kb.refl, by simpa using e⟩, ?_⟩
    rintro i m σ1 H1 ⟨hm, S1, a1, o1, kb1, e1⟩
    have oi := it H1 (cl S1 σ1 ++ T) i (o1.perm (perm3 _ _ _))
    cases hd : ds.drop i with
    | nil =>
      rw [hd] at e1
      cases e1
      have hl : ds.length ≤ i := List.drop_eq_nil_iff.mp hd
      exact .inl ⟨oi.2 hl, k σ1 H1 a1 o1.dropMid kb1⟩
    | cons d rest =>
      rw [hd] at e1
      have hi : i < ds.length := by
        rcases Nat.lt_or_ge i ds.length with h | h
        · exact h
        · rw [List.drop_eq_nil_iff.mpr h] at hd; cases hd
      have hg : ds[i]? = some d := by
        rw [List.drop_eq_getElem_cons hi] at hd
        cases hd
        exact List.getElem?_eq_getElem hi
      have hr : ds.drop (i + 1) = rest := by
        rw [List.drop_eq_getElem_cons hi] at hd
        cases hd
        rfl
      obtain ⟨go, yl⟩ := oi.1 d hg
      refine .inr ⟨go, fun σ3 H3 => ∃ S3, Ag S3 σ3 ∧ Own G H3 (cl S3 σ3 ++ (T0 ++ T)) ∧ Kb B σ σ3 ∧ forN B t b rest S3 = some (r, S'), fun σ3 H3 ⟨S3, b1, b2, b3, b4⟩ => ⟨m - 1, by omega, by omega, S3, b1, b2, b3, by rw [hr]; exact b4⟩, fun x H2 y => ?_⟩
      have o2 : Own G H2 (⟨.fz, x, d⟩ :: (cl S1 σ1 ++ (T0 ++ T))) := (yl x H2 y).perm ((perm3 _ _ _).cons _)
      have e1 : (match bindT B t d S1 with
        | none => none
        | some S1 => match b S1 with
          | none => none
          | some (.error e, S2) => some (.error e, S2)
          | some (.ok .bk, S2) => some (.ok .nx, S2)
          | some (.ok (.rt sh d), S2) => some (.ok (.rt sh d), S2)
          | some (.ok _, S2) => forN B t b rest S2) = some (r, S') := e1
      split at e1
      · cases e1
      · rename_i S2 eb
        refine ⟨S1, T0 ++ T, d, S2, a1, o2, eb, fun σ2 a2 o2 kb2 _ => ?_⟩
        refine tsm_iff.mpr ?_
        split at e1
        · cases e1
        · rename_i e3
          cases e1
          exact ⟨S2, T0 ++ T, _, _, a2, o2, e3, fun cv od σ' H' y1 y2 y3 x => k cv od σ' H' y1 y2.dropMid ((kb1.trans kb2).trans y3) x⟩
        · rename_i e3
          cases e1
          exact ⟨S2, T0 ++ T, _, _, a2, o2, e3, fun σ' H' y1 y2 y3 => k σ' H' y1 y2.dropMid ((kb1.trans kb2).trans y3)⟩
        · rename_i sh dr S3 e3
          cases e1
          exact ⟨S2, T0 ++ T, _, _, a2, o2, e3, fun v σ' H' y1 y2 y3 => k v σ' H' y1 (Own.dropMid (A := ⟨sh, v, dr⟩ :: cl S' σ') y2) ((kb1.trans kb2).trans y3)⟩
        · rename_i f S3 hb hr e3
          refine ⟨S2, T0 ++ T, _, _, a2, o2, e3, ?_⟩
          cases f with
          | nx => exact fun σ' H' y1 y2 y3 => ⟨S3, y1, y2, (kb1.trans kb2).trans y3, e1⟩
          | ct => exact fun σ' H' y1 y2 y3 => ⟨S3, y1, y2, (kb1.trans kb2).trans y3, e1⟩
          | bk => exact (hb rfl).elim
          | rt sh d => exact (hr _ _ rfl).elim
theorem ps_mfor {tg iter : Expr} {body : List Stmt} {t : Tg} {mi : M (List D)} {mb : MS} {pos : Pos} (hp : PassesOwn (model X.prog X.w) X.A X.env X.xe) (hc : X.calm = true) (hi : PI X tg iter (TIm G W mi)) (hg : PG X tg (TGm G B t)) (hb : PSs X body (TSm G W B mb))
    (hs : ∀ x, foldedSetIterable iter X.env x = pure x) : PS X (.For tg iter body [] pos) (TSm G W B (sFor B t mi mb)) := (ps_for hp hc hi hg hb hs).imp fun _ _ _ h => tsm_for h

theorem tsm_bind {t : Tg} {m : M Rv} {D : Ends} {σ : Sg} {H : Hp} (h : TSm G W B (sBind B t m) D σ H) : tAsg (TEm G W q m) (TGm G B t) D σ H := by
  obtain ⟨S, T, r, S', ag, ow, e, k⟩ := tsm_iff.mp h
  unfold sBind at e
  split at e
  · cases e
  · rename_i e1
    cases e
    exact ⟨S, T, _, _, ag, ow, e1, fun cv od H' x1 x2 x => k cv od σ H' x1 x2 Kb.refl x⟩
  · rename_i sh d S1 e1
    split at e
    · rename_i w
      split at e
      · rename_i S2 e2
        cases e
        exact ⟨S, T, _, _, ag, ow, e1, fun v H' a1 a2 _ _ => ⟨S1, T, d, S', a1, Own.freeze w a2, e2, fun σ' b1 b2 b3 _ => k σ' H' b1 b2 b3⟩⟩
      · cases e
    · cases e
  · cases e
theorem ps_mbind {tg e : Expr} {t : Tg} {m : M Rv} {pos : Pos} (he : PE X e (TEm G W q m)) (hg : PG X tg (TGm G B t)) (hs : swapsWithSole [tg] e pos.line X.env = pure false) (hw : swappedStores [tg] e X.env = pure none)
    (h1 : (assignEach [tg] X.env).map (·.2) = [assign tg X.env]) : PS X (.Assign [tg] e pos) (TSm G W B (sBind B t m)) := (ps_asg he hg hs hw h1).imp fun _ _ _ h => tsm_bind h
end
end Dt

/-! List comprehensions. -/
namespace Dt
open PySem PySem.Spec PyProof.Rows L2

def wipeS (S : List Slot) : List Nat → List Slot
  | [] => S
  | v :: vs => (wipeS S vs).set v none
def restS (S1 S2 : List Slot) : List Nat → List Slot
  | [] => S2
  | v :: vs => (restS S1 S2 vs).set v (S1.getD v none)
theorem wipeS_len (S : List Slot) : ∀ vs, (wipeS S vs).length = S.length
  | [] => rfl
  | v :: vs => by simp [wipeS, wipeS_len S vs]
theorem wipeS_get (S : List Slot) (j : Nat) : ∀ vs, (wipeS S vs)[j]? = if j ∈ vs then (if j < S.length then some none else none) else S[j]?
  | [] => by simp [wipeS]
  | v :: vs => by
    unfold wipeS
    by_cases e : v = j
    · subst e
      by_cases h : v < S.length
      · rw [List.getElem?_set_self (by rw [wipeS_len]; exact h)]
        simp [h]
      · rw [List.getElem?_eq_none (by simp [wipeS_len]; omega)]
        simp [h]
    · rw [List.getElem?_set_ne e, wipeS_get S j vs]
      have : (j ∈ v :: vs) ↔ j ∈ vs := by simp [Ne.symm e]
      simp [this]
theorem wipe_get (S : Sg) (j : Nat) : ∀ vs, (wipe S vs)[j]? = if j ∈ vs then (if j < S.length then some none else none) else S[j]?
  | [] => by simp [wipe]
  | v :: vs => by
    unfold wipe
    by_cases e : v = j
    · subst e
      by_cases h : v < S.length
      · rw [List.getElem?_set_self (by rw [wipe_length]; exact h)]
        simp [h]
      · rw [List.getElem?_eq_none (by simp [wipe_length]; omega)]
        simp [h]
    · rw [List.getElem?_set_ne e, wipe_get S j vs]
      have : (j ∈ v :: vs) ↔ j ∈ vs := by simp [Ne.symm e]
      simp [this]
theorem wipe_only {vs l : List Nat} {σ σ' : Sg} (o : Only1 l σ σ') (h : ∀ j ∈ l, j ∈ vs) : wipe σ' vs = wipe σ vs := by
  refine List.ext_getElem? fun j => ?_
  rw [wipe_get, wipe_get, o.1]
  by_cases hj : j ∈ vs
  · rw [if_pos hj, if_pos hj]
  · rw [if_neg hj, if_neg hj]
    exact o.2 j fun z => hj (h j z)
theorem wipe_wipe {vs : List Nat} {σ : Sg} : wipe (wipe σ vs) vs = wipe σ vs := wipe_only (l := vs) ⟨wipe_length σ vs, fun j hj => by rw [wipe_get, if_neg hj]⟩ fun _ h => h
/-- a slot's claim -/
def clm (S : List Slot) (σ : Sg) (j : Nat) : List Cl := match S[j]?, σ[j]? with
  | some (some (sh, d)), some (some v) => [⟨sh, v, d⟩]
  | _, _ => []
theorem cl_clm : ∀ {S : List Slot} {σ : Sg} {i : Nat}, (cl S σ).Perm (clm S σ i ++ cl (S.set i none) σ)
  | [], _, _ => by simp [clm]
  | _ :: _, [], i => by simp [clm, cl]
  | none :: S, y :: σ, 0 => by simp [clm, cl]
  | some (sh, d) :: S, some v :: σ, 0 => by simp [clm, cl]
  | some (sh, d) :: S, none :: σ, 0 => by simp [clm, cl]
  | none :: S, y :: σ, i + 1 => by simpa [cl, clm] using cl_clm (S := S) (σ := σ) (i := i)
  | some (sh, d) :: S, none :: σ, i + 1 => by simpa [cl, clm] using cl_clm (S := S) (σ := σ) (i := i)
  | some (sh, d) :: S, some v :: σ, i + 1 => by
    have p := cl_clm (S := S) (σ := σ) (i := i)
    simp only [cl, List.set_cons_succ]
    have e : clm (some (sh, d) :: S) (some v :: σ) (i + 1) = clm S σ i := by simp [clm]
    rw [e]
    exact (p.cons _).trans List.perm_middle.symm
def svs (S : List Slot) (σ : Sg) (vs : List Nat) : List Cl := vs.flatMap (clm S σ)
theorem cl_wipe {S : List Slot} {σ : Sg} : ∀ {vs : List Nat}, vs.Nodup → (cl S σ).Perm (svs S σ vs ++ cl (wipeS S vs) σ)
  | [], _ => by simp [svs, wipeS]
  | v :: vs, nd => by
    have nd' := List.nodup_cons.mp nd
    have p := cl_wipe (S := S) (σ := σ) nd'.2
    have p2 := cl_clm (S := wipeS S vs) (σ := σ) (i := v)
    have e : clm (wipeS S vs) σ v = clm S σ v := by
      unfold clm
      rw [wipeS_get, if_neg nd'.1]
    rw [e] at p2
    refine p.trans ?_
    refine (p2.append_left _).trans ?_
    show (svs S σ vs ++ (clm S σ v ++ cl ((wipeS S vs).set v none) σ)).Perm (svs S σ (v :: vs) ++ cl (wipeS S (v :: vs)) σ)
    have e2 : svs S σ (v :: vs) = clm S σ v ++ svs S σ vs := by simp [svs]
    rw [e2, List.append_assoc]
    exact perm3 _ _ _
theorem cl_setnone {S : List Slot} {σ : Sg} {i : Nat} (h : S[i]? = some none) : S.set i none = S := by
  refine List.ext_getElem? fun j => ?_
  by_cases e : i = j
  · subst e
    rw [h]
    exact List.getElem?_set_self (List.getElem?_eq_some_iff.mp h).1
  · rw [List.getElem?_set_ne e]
theorem restS_len (S1 S2 : List Slot) : ∀ vs, (restS S1 S2 vs).length = S2.length
  | [] => rfl
  | v :: vs => by simp [restS, restS_len S1 S2 vs]
theorem restS_get {S1 S2 : List Slot} {j : Nat} : ∀ {vs : List Nat}, j ∉ vs → (restS S1 S2 vs)[j]? = S2[j]?
  | [], _ => rfl
  | v :: vs, h => by
    unfold restS
    rw [List.getElem?_set_ne (fun e => h (by simp [e])), restS_get (vs := vs) fun z => h (by simp [z])]
theorem Ag.setO {S : List Slot} {σ : Sg} (a : Ag S σ) {i : Nat} {x : Slot} (h : ∀ sd, x = some sd → ∃ v, σ[i]? = some (some v)) : Ag (S.set i x) σ := by
  cases x with
  | none => exact a.unset
  | some sd =>
    obtain ⟨v, e⟩ := h sd rfl
    exact a.set e
theorem Ag.rest {S1 S2 : List Slot} {σ : Sg} (a1 : Ag S1 σ) (a2 : Ag S2 σ) : ∀ {vs : List Nat}, Ag (restS S1 S2 vs) σ
  | [] => a2
  | v :: vs => by
    refine (Ag.rest a1 a2 (vs := vs)).setO fun sd e => ?_
    cases h : S1[v]? with
    | none => rw [List.getD_eq_getElem?_getD, h] at e; cases e
    | some y =>
      rw [List.getD_eq_getElem?_getD, h] at e
      have e' : y = some sd := e
      subst e'
      exact a1.get h
theorem cl_rest {S1 S2 : List Slot} {σ : Sg} (hl : S1.length = S2.length) : ∀ {vs : List Nat}, vs.Nodup → (∀ j ∈ vs, S2[j]? = some none ∨ S2.length ≤ j) → (cl (restS S1 S2 vs) σ).Perm (svs S1 σ vs ++ cl S2 σ)
  | [], _, _ => by simp [svs, restS]
  | v :: vs, nd, h => by
    have nd' := List.nodup_cons.mp nd
    have p := cl_rest (σ := σ) hl nd'.2 fun j hj => h j (by simp [hj])
    have e2 : svs S1 σ (v :: vs) = clm S1 σ v ++ svs S1 σ vs := by simp [svs]
    rw [e2, List.append_assoc]
    have hv := restS_get (S1 := S1) (S2 := S2) nd'.1
    rcases h v (by simp) with h0 | h0
    · rw [h0] at hv
      have hlt : v < S2.length := (List.getElem?_eq_some_iff.mp h0).1
      have p2 := cl_clm (S := restS S1 S2 (v :: vs)) (σ := σ) (i := v)
      have e3 : clm (restS S1 S2 (v :: vs)) σ v = clm S1 σ v := by
        unfold clm restS
        rw [List.getElem?_set_self (by rw [restS_len]; exact hlt)]
        rw [List.getD_eq_getElem?_getD]
        cases hs : S1[v]? with
        | none => rw [List.getElem?_eq_none_iff] at hs; omega
        | some y => rfl
      have e4 : (restS S1 S2 (v :: vs)).set v none = restS S1 S2 vs := by
        show ((restS S1 S2 vs).set v (S1.getD v none)).set v none = restS S1 S2 vs
        rw [List.set_set, cl_setnone (σ := σ) hv]
      rw [e3, e4] at p2
      exact p2.trans (p.append_left _)
    · have e5 : restS S1 S2 (v :: vs) = restS S1 S2 vs := by
        show (restS S1 S2 vs).set v (S1.getD v none) = restS S1 S2 vs
        rw [List.set_eq_of_length_le (by rw [restS_len]; exact h0)]
      have e6 : clm S1 σ v = [] := by
        unfold clm
        rw [List.getElem?_eq_none (by omega)]
      rw [e5, e6]
      exact p
theorem cl_congr : ∀ {S : List Slot} {σ σ' : Sg}, σ.length = σ'.length → (∀ (j : Nat) sd, S[j]? = some (some sd) → σ[j]? = σ'[j]?) → cl S σ = cl S σ'
  | [], _, _, _, _ => by simp [cl]
  | _ :: _, [], [], _, _ => rfl
  | _ :: _, [], _ :: _, h, _ => by simp at h
  | _ :: _, _ :: _, [], h, _ => by simp at h
  | none :: S, y :: σ, y' :: σ', h, k => by
    have := cl_congr (S := S) (σ := σ) (σ' := σ') (by simpa using h) fun j sd e => by simpa using k (j + 1) sd (by simpa using e)
    simpa [cl] using this
  | some (sh, d) :: S, y :: σ, y' :: σ', h, k => by
    have := cl_congr (S := S) (σ := σ) (σ' := σ') (by simpa using h) fun j sd e => by simpa using k (j + 1) sd (by simpa using e)
    have e0 : y = y' := by simpa using k 0 (sh, d) rfl
    subst e0
    cases y <;> simp [cl, this]
theorem Ag.congr : ∀ {S : List Slot} {σ σ' : Sg}, Ag S σ → σ.length = σ'.length → (∀ (j : Nat) sd, S[j]? = some (some sd) → σ[j]? = σ'[j]?) → Ag S σ'
  | [], [], [], _, _, _ => trivial
  | [], [], _ :: _, _, h, _ => by simp at h
  | [], _ :: _, _, a, _, _ => a.elim
  | none :: _, [], _, a, _, _ => a.elim
  | some _ :: _, [], _, a, _, _ => a.elim
  | _ :: _, _ :: _, [], _, h, _ => by simp at h
  | none :: S, y :: σ, y' :: σ', a, h, k => Ag.congr (S := S) (σ := σ) (σ' := σ') a (by simpa using h) fun j sd e => by simpa using k (j + 1) sd (by simpa using e)
  | some sd :: S, none :: σ, y' :: σ', a, h, k => a.elim
  | some sd :: S, some v :: σ, y' :: σ', a, h, k => by
    have e0 : some v = y' := by simpa using k 0 sd rfl
    subst e0
    exact Ag.congr (S := S) (σ := σ) (σ' := σ') a (by simpa using h) fun j sd e => by simpa using k (j + 1) sd (by simpa using e)
theorem wipeS_some {S : List Slot} {vs : List Nat} {j : Nat} {sd} (h : (wipeS S vs)[j]? = some (some sd)) : j ∉ vs := fun z => by
  rw [wipeS_get, if_pos z] at h
  split at h <;> cases h
theorem cl_wipe_vals {S : List Slot} {σ : Sg} {vs : List Nat} : cl (wipeS S vs) (wipe σ vs) = cl (wipeS S vs) σ :=
  cl_congr (wipe_length σ vs) fun j sd h => by rw [wipe_get, if_neg (wipeS_some h)]
theorem Ag.wipe {S : List Slot} {σ : Sg} (a : Ag S σ) : ∀ {vs : List Nat}, Ag (wipeS S vs) σ
  | [] => a
  | v :: vs => (Ag.wipe a (vs := vs)).unset
theorem Ag.wipes {S : List Slot} {σ : Sg} {vs : List Nat} (a : Ag S σ) : Ag (wipeS S vs) (L2.wipe σ vs) :=
  (a.wipe (vs := vs)).congr (wipe_length σ vs).symm fun j sd h => by rw [wipe_get, if_neg (wipeS_some h)]

/-! the comprehension -/
/-- an item of shape sh goes into a list whose items are c -/
def fits : Sh → Sh → Bool
  | .fz, sh => sh.whole
  | .lst .fz, .lst .fz => true
  | .dct .fz, .dct .fz => true
  | _, _ => false
def noB : Bw := fun _ => false
def bYes : M Bool := fun S => some (.ok true, S)
/-- its items, one after another -/
def lcN (vs : List Nat) (t : Tg) (tt : M Bool) (me : M Rv) (c : Sh) : List D → List D → List Slot → Option (List D × List Slot)
  | [], acc, S => some (acc, S)
  | d :: ds, acc, S => match bindT noB t d S with
    | none => none
    | some S1 => match tt S1 with
      | some (.ok false, S2) => lcN vs t tt me c ds acc (wipeS S2 vs)
      | some (.ok true, S2) => match me S2 with
        | some (.ok (.tmp sh x), S3) => if fits c sh = true then lcN vs t tt me c ds (acc ++ [x]) (wipeS S3 vs) else none
        | _ => none
      | _ => none
def mLc (vs : List Nat) (t : Tg) (mi : M (List D)) (tt : M Bool) (me : M Rv) (c : Sh) : M Rv := fun S => match mi S with
  | none => none
  | some (.error e, S1) => some (.error e, S1)
  | some (.ok ds, S1) => if ds.length ≤ sizeLine then match lcN vs t tt me c ds [] (wipeS S1 vs) with
      | some (acc, S2) => some (.ok (.tmp (.lst c) (.lst acc)), restS S1 S2 vs)
      | none => none
    else none
abbrev W0 : WX := fun _ _ _ _ => False
section
variable {X : Cx} {G : Gm} {W : WX} {B : Bw} {q q1 q2 : Bool}
theorem Own.fit {H : Hp} {c sh : Sh} {v d L} (f : fits c sh = true) (h : Own G H (⟨sh, v, d⟩ :: L)) : Own G H (⟨c, v, d⟩ :: L) := by
  unfold fits at f
  split at f
  · exact h.freeze f
  · exact h
  · exact h
  · cases f
theorem lcN_wiped {vs : List Nat} {t : Tg} {tt : M Bool} {me : M Rv} {c : Sh} : ∀ {ds acc S r}, lcN vs t tt me c ds acc (wipeS S vs) = some r → ∃ S', r.2 = wipeS S' vs
  | [], acc, S, r, h => by cases h; exact ⟨S, rfl⟩
  | d :: ds, acc, S, r, h => by
    unfold lcN at h
    split at h
    · cases h
    · split at h
      · exact lcN_wiped h
      · split at h
        · split at h
          · exact lcN_wiped h
          · cases h
        · cases h
      · cases h
theorem tem_lc {vs : List Nat} {t : Tg} {mi : M (List D)} {tt : M Bool} {me : M Rv} {c : Sh} {σ : Sg} {H : Hp} {Q : VK} (nd : vs.Nodup) (hts : ∀ j ∈ t.slots, j ∈ vs) (h : TEm G W false (mLc vs t mi tt me c) σ H Q) :
    tLc (TIm G W mi) (TGm G noB t) (TTm G W0 q1 tt) (TEm G W0 q2 me) vs σ H Q := by
  obtain ⟨S, T, r, S', ag, ow, e, k⟩ := h
  unfold mLc at e
  split at e
  · cases e
  · rename_i e1
    cases e
    exact ⟨S, T, _, _, ag, ow, e1, k⟩
  · rename_i ds S1 e1
    split at e
    · rename_i hz
      split at e
      · rename_i acc S2 e2
        cases e
        refine ⟨S, T, _, _, ag, ow, e1, fun J T0 H1 it a1 o1 D hD => ?_⟩
        obtain ⟨Sw, ew⟩ := lcN_wiped e2
        have ew : S2 = wipeS Sw vs := ew
        -- the slots of the block's own names are put aside
        have p1 : (T0 ++ (cl S1 σ ++ T)).Perm (cl (wipeS S1 vs) (wipe σ vs) ++ (T0 ++ (svs S1 σ vs ++ T))) := by
          rw [cl_wipe_vals]
          refine (((cl_wipe (S := S1) (σ := σ) nd).append_right T).append_left T0).trans ?_
          rw [List.append_assoc]
          refine (perm3 _ _ _).trans ?_
          refine (perm3 (svs S1 σ vs) T0 _).trans ?_
          refine ((perm3 (svs S1 σ vs) (cl (wipeS S1 vs) σ) T).append_left T0).trans ?_
          exact perm3 _ _ _
        have o2 := o1.perm p1
        have o3 : Own G (upd H1 D (.lst [])) (⟨.lst c, .ref D, .lst []⟩ :: (cl (wipeS S1 vs) (wipe σ vs) ++ (T0 ++ (svs S1 σ vs ++ T)))) := Own.newLst (A := []) (by simp) o2 hD
        refine ⟨fun i m H' => m + i = ds.length ∧ ∃ Si ac, Ag Si (wipe σ vs) ∧ (∃ Z, Si = wipeS Z vs) ∧ Own G H' (⟨.lst c, .ref D, .lst ac⟩ :: (cl Si (wipe σ vs) ++ (T0 ++ (svs S1 σ vs ++ T)))) ∧ ac.length ≤ i ∧ lcN vs t tt me c (ds.drop i) ac Si = some (acc, S2),
          ⟨ds.length, by simp, _, [], a1.wipes, ⟨S1, rfl⟩, o3, by simp, by simpa using e2⟩, ?_⟩
        rintro i m Hi ⟨hm, Si, ac, ai, ⟨Z, ez⟩, oi, hac, ei⟩
        have oit := it Hi (⟨.lst c, .ref D, .lst ac⟩ :: (cl Si (wipe σ vs) ++ (svs S1 σ vs ++ T))) i (oi.perm (by
          refine ((perm3 _ _ _).cons _).trans ?_
          exact List.perm_middle.symm))
        cases hd : ds.drop i with
        | nil =>
          rw [hd] at ei
          cases ei
          have hl : ds.length ≤ i := List.drop_eq_nil_iff.mp hd
          refine .inl ⟨oit.2 hl, ?_⟩
          have aS : Ag S2 σ := ai.congr (wipe_length σ vs) fun j sd h => by
            rw [ez] at h
            rw [wipe_get, if_neg (wipeS_some h)]
          refine k _ Hi (a1.rest aS) ?_ trivial fun hq => by cases hq
          have ec : cl S2 (wipe σ vs) = cl S2 σ := by rw [ez]; exact cl_wipe_vals
          rw [ec] at oi
          have hS2 : ∀ j ∈ vs, S2[j]? = some none ∨ S2.length ≤ j := fun j hj => by
            rw [ez, wipeS_get, if_pos hj, wipeS_len]
            split
            · exact .inl rfl
            · exact .inr (by omega)
          have pr := cl_rest (S1 := S1) (S2 := S2) (σ := σ) (by rw [a1.length, aS.length]) nd hS2
          refine Own.dropMid (A := [⟨.lst c, .ref D, .lst acc⟩]) (B := T0) (oi.perm (List.Perm.cons _ ?_))
          refine (perm3 _ _ _).trans (List.Perm.append_left T0 ?_)
          rw [← List.append_assoc]
          exact (List.perm_append_comm.trans pr.symm).append_right T
        | cons d rest =>
          rw [hd] at ei
          have hi : i < ds.length := by
            rcases Nat.lt_or_ge i ds.length with h | h
            · exact h
            · rw [List.drop_eq_nil_iff.mpr h] at hd; cases hd
          have hg : ds[i]? = some d := by
            rw [List.drop_eq_getElem_cons hi] at hd
            cases hd
            exact List.getElem?_eq_getElem hi
          have hr : ds.drop (i + 1) = rest := by
            rw [List.drop_eq_getElem_cons hi] at hd
            cases hd
            rfl
          obtain ⟨go, yl⟩ := oit.1 d hg
          refine .inr ⟨go, fun H3 => ∃ Si ac, Ag Si (wipe σ vs) ∧ (∃ Z, Si = wipeS Z vs) ∧ Own G H3 (⟨.lst c, .ref D, .lst ac⟩ :: (cl Si (wipe σ vs) ++ (T0 ++ (svs S1 σ vs ++ T)))) ∧ ac.length ≤ i + 1 ∧ lcN vs t tt me c rest ac Si = some (acc, S2),
            fun H3 ⟨Si, ac, b1, b2, b3, b4, b5⟩ => ⟨m - 1, by omega, by omega, Si, ac, b1, b2, b3, b4, by rw [hr]; exact b5⟩, fun x H2 y => ?_⟩
          have oy : Own G H2 (⟨.fz, x, d⟩ :: (cl Si (wipe σ vs) ++ (⟨.lst c, .ref D, .lst ac⟩ :: (T0 ++ (svs S1 σ vs ++ T))))) := (yl x H2 y).perm (List.Perm.cons _ (by
            refine List.perm_middle.trans ?_
            refine List.Perm.trans ?_ List.perm_middle.symm
            exact (perm3 _ _ _).cons _))
          have ei : (match bindT noB t d Si with
            | none => none
            | some S1 => match tt S1 with
              | some (.ok false, S2) => lcN vs t tt me c rest ac (wipeS S2 vs)
              | some (.ok true, S2) => match me S2 with
                | some (.ok (.tmp sh x), S3) => if fits c sh = true then lcN vs t tt me c rest (ac ++ [x]) (wipeS S3 vs) else none
                | _ => none
              | _ => none) = some (acc, S2) := ei
          split at ei
          · cases ei
          · rename_i S3 e3
            refine ⟨Si, _, d, S3, ai, oy, e3, fun σ2 a2 o2 _ on => ?_⟩
            have ewp : wipe σ2 vs = wipe σ vs := (wipe_only on hts).trans wipe_wipe
            refine ⟨ewp, ?_⟩
            have fin : ∀ {S4 : List Slot} {H4 : Hp} {ac4 : List Dt.D}, Ag S4 σ2 → Own G H4 (⟨.lst c, .ref D, .lst ac4⟩ :: (cl S4 σ2 ++ (T0 ++ (svs S1 σ vs ++ T)))) → ac4.length ≤ i + 1 → lcN vs t tt me c rest ac4 (wipeS S4 vs) = some (acc, S2) →
                ∃ Si ac, Ag Si (wipe σ vs) ∧ (∃ Z, Si = wipeS Z vs) ∧ Own G H4 (⟨.lst c, .ref D, .lst ac⟩ :: (cl Si (wipe σ vs) ++ (T0 ++ (svs S1 σ vs ++ T)))) ∧ ac.length ≤ i + 1 ∧ lcN vs t tt me c rest ac Si = some (acc, S2) := fun {S4 H4 ac4} b1 b2 b3 b4 => by
              refine ⟨wipeS S4 vs, ac4, by rw [← ewp]; exact b1.wipes, ⟨_, rfl⟩, ?_, b3, b4⟩
              rw [← ewp, cl_wipe_vals]
              have pw := cl_wipe (S := S4) (σ := σ2) nd
              refine Own.dropMid (A := [⟨.lst c, .ref D, .lst ac4⟩]) (B := svs S4 σ2 vs) (b2.perm (List.Perm.cons _ ?_))
              refine (pw.append_right _).trans ?_
              rw [List.append_assoc]
              exact .refl _
            split at ei
            · rename_i S4 e4
              refine ⟨S3, _, _, _, a2, o2, e4, fun H4 b1 b2 _ => ?_⟩
              refine iteF ?_
              exact fin b1 (b2.perm List.perm_middle) (by omega) ei
            · rename_i S4 e4
              refine ⟨S3, _, _, _, a2, o2, e4, fun H4 b1 b2 _ => ?_⟩
              refine iteT ?_
              split at ei
              · rename_i sh x S5 e5
                split at ei
                · rename_i hf
                  refine ⟨S4, _, _, _, b1, b2, e5, fun w H5 c1 c2 _ _ => ?_⟩
                  have c3 : Own G H5 (⟨.lst c, .ref D, .lst ac⟩ :: ⟨c, w, x⟩ :: (cl S5 σ2 ++ (T0 ++ (svs S1 σ vs ++ T)))) := (Own.fit hf c2).perm (by
                    refine (List.perm_middle.cons _).trans ?_
                    exact List.Perm.swap _ _ _)
                  obtain ⟨ws, hw, hl, c4⟩ := c3.append
                  refine ⟨ws, hw, by omega, ?_⟩
                  exact fin c1 c4 (by simp; omega) ei
                · cases ei
              · cases ei
            · cases ei
      · cases e
    · cases e
theorem pts_mnil : PTs X [] (TTm G W true bYes) := ⟨fun pins s σ H Q I h => by
  obtain ⟨S, T, r, S', ag, ow, e, k⟩ := h
  cases e
  exact pts_nil.run pins s σ H Q I (k H ag ow fun _ => Same.refl H)⟩
theorem pe_mlc {elt tg iter : Expr} {ifs : List Expr} {scope : Scope} {own : List (Str × Nat)} {pos : Pos} {t : Tg} {mi : M (List D)} {tt : M Bool} {me : M Rv} {c : Sh} (hc : X.calm = true) (hN : X.N.Nodup) (hi : PI X tg iter (TIm G W mi)) (ok : BlkOk X.N X.env.scope scope own)
    (hg : ∀ (s : Shared) (H : Hp) (C : Addr) (cl : List (Str × Addr)) (fp : List Addr), PG (X.blk s H scope (compEnvC scope cl C X.env) fp) tg (TGm G noB t))
    (ht : ∀ (s : Shared) (H : Hp) (C : Addr) (cl : List (Str × Addr)) (fp : List Addr), PTs (X.blk s H scope (compEnvC scope cl C X.env) fp) ifs (TTm G W0 q1 tt))
    (he : ∀ (s : Shared) (H : Hp) (C : Addr) (cl : List (Str × Addr)) (fp : List Addr), PE (X.blk s H scope (compEnvC scope cl C X.env) fp) elt (TEm G W0 q2 me)) (hs : ∀ x, foldedSetIterable iter X.env x = pure x)
    (nd : (own.map (·.2)).Nodup) (hts : ∀ j ∈ t.slots, j ∈ own.map (·.2)) : PE X (.ListComp elt [⟨tg, iter, ifs, 0⟩] scope pos) (TEm G W false (mLc (own.map (·.2)) t mi tt me c)) :=
  (pe_lc hc hN hi ok hg ht he hs).imp fun _ _ _ h => tem_lc nd hts h
theorem ps_msetLc {i : Nat} {y : Str} {py : Pos} {elt tg iter : Expr} {ifs : List Expr} {scope : Scope} {own : List (Str × Nat)} {pos spos : Pos} {t : Tg} {mi : M (List D)} {tt : M Bool} {me : M Rv} {c : Sh} (hc : X.calm = true) (hN : X.N.Nodup) (hy : X.N[i]? = some y) (hyl : X.env.scope.names.lookup y = some .local)
    (hsw : swapsWith (.ListComp elt [⟨tg, iter, ifs, 0⟩] scope pos) (some (.Name y py)) spos.line X.env = pure true) (hi : PI X tg iter (TIm G W mi)) (ok : BlkOk X.N X.env.scope scope own)
    (hg : ∀ (s : Shared) (H : Hp) (C : Addr) (cl : List (Str × Addr)) (fp : List Addr), PG (X.blk s H scope (compEnvC scope cl C X.env) fp) tg (TGm G noB t))
    (ht : ∀ (s : Shared) (H : Hp) (C : Addr) (cl : List (Str × Addr)) (fp : List Addr), PTs (X.blk s H scope (compEnvC scope cl C X.env) fp) ifs (TTm G W0 q1 tt))
    (he : ∀ (s : Shared) (H : Hp) (C : Addr) (cl : List (Str × Addr)) (fp : List Addr), PE (X.blk s H scope (compEnvC scope cl C X.env) fp) elt (TEm G W0 q2 me)) (hs : ∀ x, foldedSetIterable iter X.env x = pure x)
    (nd : (own.map (·.2)).Nodup) (hts : ∀ j ∈ t.slots, j ∈ own.map (·.2)) : PS X (.Assign [.Name y py] (.ListComp elt [⟨tg, iter, ifs, 0⟩] scope pos) spos) (TSm G W B (sSet B i (mLc (own.map (·.2)) t mi tt me c))) := by
  refine (ps_setLc hc hN hy hyl hsw hi ok hg ht he hs).imp fun D σ H h => ?_
  have h1 := tsm_set (q := false) h
  exact tem_lc nd hts h1
end
end Dt

/-! Displays; calls of defs; a def by its body. -/
namespace Dt
open PySem PySem.Spec PyProof.Rows L2

/-- what was made or frozen ahead, each as c -/
def tmps (c : Sh) : List Rv → Option (List D)
  | [] => some []
  | .tmp sh d :: rs => if fits c sh = true then match tmps c rs with
      | some ds => some (d :: ds)
      | none => none
    else none
  | .ref _ _ :: _ => none
def mTup (as : M (List Rv)) : M Rv := fun S => match as S with
  | none => none
  | some (.error e, S1) => some (.error e, S1)
  | some (.ok rs, S1) => if rs.length ≤ 1000 then match tmps .fz rs with
      | some ds => some (.ok (.tmp .fz (.tup ds)), S1)
      | none => none
    else none
def mLst (c : Sh) (as : M (List Rv)) : M Rv := fun S => match as S with
  | none => none
  | some (.error e, S1) => some (.error e, S1)
  | some (.ok rs, S1) => if rs.length ≤ 1000 then match tmps c rs with
      | some ds => some (.ok (.tmp (.lst c) (.lst ds)), S1)
      | none => none
    else none
section
variable {X : Cx} {G : Gm} {W : WX} {B : Bw} {q q1 q2 : Bool}
theorem tmps_cls {c : Sh} {σ : Sg} {H : Hp} {L : List Cl} : ∀ {rs : List Rv} {vs : List V} {ds : List D} {A : List Cl}, tmps c rs = some ds → okA G σ H rs vs → (∀ t ∈ A, t.sh = c) → Own G H (A ++ (clsA rs vs ++ L)) →
    ∃ A' : List Cl, (∀ t ∈ A', t.sh = c) ∧ A'.map Cl.v = vs ∧ A'.map Cl.d = ds ∧ Own G H ((A ++ A') ++ L)
  | [], [], ds, A, e, _, w, o => by
    cases e
    exact ⟨[], by simp, rfl, rfl, by simpa [clsA] using o⟩
  | .tmp sh d :: rs, v :: vs, ds, A, e, ok, w, o => by
    unfold tmps at e
    split at e
    · rename_i f
      split at e
      · rename_i ds' e'
        cases e
        have o1 : Own G H (⟨sh, v, d⟩ :: (A ++ (clsA rs vs ++ L))) := o.perm List.perm_middle
        have o2 : Own G H ((A ++ [⟨c, v, d⟩]) ++ (clsA rs vs ++ L)) := (o1.fit f).perm (by
          rw [List.append_assoc]
          exact List.perm_middle.symm)
        obtain ⟨A', w', e1, e2, o3⟩ := tmps_cls (rs := rs) (vs := vs) e' ok.2 (fun t ht => by
          rcases List.mem_append.mp ht with ht | ht
          · exact w t ht
          · rw [List.mem_singleton.mp ht]) o2
        refine ⟨⟨c, v, d⟩ :: A', fun t ht => ?_, by simp [e1], by simp [e2], by simpa using o3⟩
        rcases List.mem_cons.mp ht with rfl | ht
        · rfl
        · exact w' t ht
      · cases e
    · cases e
  | .ref _ _ :: _, _ :: _, _, _, e, _, _, _ => by cases e
  | [], _ :: _, _, _, _, ok, _, _ => ok.elim
  | _ :: _, [], _, _, _, ok, _, _ => ok.elim
theorem line1000 {n : Nat} (h : n ≤ 1000) : n ≤ sizeLine := Nat.le_of_lt (small1000 h)
theorem pe_mtup {es : List Expr} {as : M (List Rv)} {x1 pos} (ha : PA X es (TAm G W q as)) : PE X (.Tuple es x1 pos) (TEm G W q (mTup as)) := (pe_tup ha).imp fun σ H Q h => by
  obtain ⟨S, T, r, S', ag, ow, e, k⟩ := h
  unfold mTup at e
  split at e
  · cases e
  · rename_i e1
    cases e
    exact ⟨S, T, _, _, ag, ow, e1, k⟩
  · rename_i rs S1 e1
    split at e
    · rename_i hz
      split at e
      · rename_i ds e2
        cases e
        refine ⟨S, T, _, _, ag, ow, e1, fun vs H' a1 a2 a3 a4 => ⟨line1000 (by rw [clsA_len a3]; exact hz), fun p hp => ?_⟩⟩
        obtain ⟨A, w, ev, ed, o⟩ := tmps_cls (A := []) e2 a3 (by simp) a2
        obtain ⟨O, o⟩ := o
        obtain ⟨rA, o'⟩ := o.heads w
        rw [ev, ed] at rA
        exact k _ _ a1 ⟨O, o'.newTup rA hp⟩ trivial fun hq => (a4 hq).trans (upd_new hp)
      · cases e
    · cases e
theorem pe_mlst {c : Sh} {es : List Expr} {as : M (List Rv)} {pos} (ha : PA X es (TAm G W q as)) : PE X (.List es pos) (TEm G W q (mLst c as)) := (pe_lst ha).imp fun σ H Q h => by
  obtain ⟨S, T, r, S', ag, ow, e, k⟩ := h
  unfold mLst at e
  split at e
  · cases e
  · rename_i e1
    cases e
    exact ⟨S, T, _, _, ag, ow, e1, k⟩
  · rename_i rs S1 e1
    split at e
    · rename_i hz
      split at e
      · rename_i ds e2
        cases e
        refine ⟨S, T, _, _, ag, ow, e1, fun vs H' a1 a2 a3 a4 => ⟨line1000 (by rw [clsA_len a3]; exact hz), fun p hp => ?_⟩⟩
        obtain ⟨A, w, ev, ed, o⟩ := tmps_cls (A := []) e2 a3 (by simp) a2
        have o2 := Own.newLst w (by simpa using o) hp
        rw [ev, ed] at o2
        exact k _ _ a1 o2 trivial fun hq => (a4 hq).trans (upd_new hp)
      · cases e
    · cases e

/-! calls of defs -/
/-- a def by values: what it gives, and what it leaves of the things that were lent -/
abbrev Fs := List (Sh × D) → Option (Except Exc (Sh × D) × List Slot)
/-- the arguments are taken: what was made is handed over, a place (a name) is lent -/
def takeA : List Rv → List Slot → Option (List (Sh × D) × List Slot)
  | [], S => some ([], S)
  | .tmp sh d :: rs, S => match takeA rs S with
    | some (as, S1) => some ((sh, d) :: as, S1)
    | none => none
  | .ref i [] :: rs, S => match S[i]? with
    | some (some sd) => match takeA rs (S.set i none) with
      | some (as, S1) => some (sd :: as, S1)
      | none => none
    | _ => none
  | .ref _ _ :: _, _ => none
/-- what was lent comes back -/
def backA : List Rv → List Slot → List Slot → List Slot
  | .ref i [] :: rs, x :: xs, S => backA rs xs (match x with
    | some sd => S.set i (some sd)
    | none => S)
  | _ :: rs, _ :: xs, S => backA rs xs S
  | _, _, S => S
def mCall (f : Fs) (as : M (List Rv)) : M Rv := fun S => match as S with
  | none => none
  | some (.error e, S1) => some (.error e, S1)
  | some (.ok rs, S1) => match takeA rs S1 with
    | none => none
    | some (ads, S2) => match f ads with
      | none => none
      | some (.error e, xs) => some (.error e, backA rs xs S2)
      | some (.ok (sh, d), xs) => some (.ok (.tmp sh d), backA rs xs S2)
/-- the claims of arguments -/
def clA (as : List (Sh × D)) (vs : List V) : List Cl := cl (as.map some) (vs.map some)
/-- a def's promise -/
def spF (G : Gm) (f : Fs) : Sp := fun vs H Q E => ∃ as T r xs, as.length = vs.length ∧ Own G H (clA as vs ++ T) ∧ f as = some (r, xs) ∧ xs.length = vs.length ∧
  match r with
  | .ok (sh, d) => ∀ v H', Own G H' (⟨sh, v, d⟩ :: (cl xs (vs.map some) ++ T)) → Q v H'
  | .error ex => ∀ cv od H', Own G H' (cl xs (vs.map some) ++ T) → ExAt G H' ex cv od → E cv od H'
theorem takeA_cls {σ : Sg} {H : Hp} {T : List Cl} : ∀ {rs : List Rv} {vs : List V} {S : List Slot} {ads S2}, Ag S σ → okA G σ H rs vs → takeA rs S = some (ads, S2) → ads.length = vs.length ∧ Ag S2 σ ∧ (clsA rs vs ++ (cl S σ ++ T)).Perm (clA ads vs ++ (cl S2 σ ++ T))
  | [], [], S, ads, S2, ag, _, e => by
    cases e
    exact ⟨rfl, ag, .refl _⟩
  | .tmp sh d :: rs, v :: vs, S, ads, S2, ag, ok, e => by
    unfold takeA at e
    split at e
    · rename_i as S1 e1
      cases e
      obtain ⟨h1, h2, h3⟩ := takeA_cls ag ok.2 e1
      exact ⟨by simp [h1], h2, h3.cons _⟩
    · cases e
  | .ref i [] :: rs, v :: vs, S, ads, S2, ag, ok, e => by
    unfold takeA at e
    split at e
    · rename_i sd hS
      split at e
      · rename_i as S1 e1
        cases e
        obtain ⟨v0, ev, pv⟩ := ok.1
        have pv : v = v0 := pv
        subst pv
        obtain ⟨h1, h2, h3⟩ := takeA_cls ag.unset ok.2 e1
        refine ⟨by simp [h1], h2, ?_⟩
        obtain ⟨sh, d⟩ := sd
        have p := (cl_get hS ev).append_right T
        show (clsA rs vs ++ (cl S σ ++ T)).Perm (⟨sh, v, d⟩ :: (clA as vs ++ (cl S2 σ ++ T)))
        refine (p.append_left _).trans ?_
        refine List.perm_middle.trans ?_
        exact h3.cons _
      · cases e
    · cases e
  | .ref _ (_ :: _) :: _, _ :: _, _, _, _, _, _, e => by cases e
  | [], _ :: _, _, _, _, _, ok, _ => ok.elim
  | _ :: _, [], _, _, _, _, ok, _ => ok.elim
theorem cl_app1 {x : Slot} {xs : List Slot} {v : V} {vs : List V} : ∃ A, cl (x :: xs) (some v :: vs.map some) = A ++ cl xs (vs.map some) ∧ (∀ sh d, x = some (sh, d) → A = [⟨sh, v, d⟩]) ∧ (x = none → A = []) := by
  cases x with
  | none => exact ⟨[], rfl, by simp, by simp⟩
  | some sd =>
    obtain ⟨sh, d⟩ := sd
    exact ⟨[⟨sh, v, d⟩], rfl, fun sh' d' e => by cases e; rfl, by simp⟩
theorem backA_cls {σ : Sg} {H : Hp} {T : List Cl} : ∀ {rs : List Rv} {vs : List V} {S : List Slot} {xs : List Slot}, Ag S σ → (∀ i, Rv.ref i [] ∈ rs → ∃ v, σ[i]? = some (some v)) → okA G σ H rs vs → xs.length = vs.length → ∀ {L : List Cl}, Own G H (L ++ (cl xs (vs.map some) ++ (cl S σ ++ T))) → Ag (backA rs xs S) σ ∧ Own G H (L ++ (cl (backA rs xs S) σ ++ T))
  | [], [], S, [], ag, _, _, _, L, o => ⟨ag, o⟩
  | r :: rs, v :: vs, S, x :: xs, ag, hv, ok, hl, L, o => by
    have hv' : ∀ i, Rv.ref i [] ∈ rs → ∃ v, σ[i]? = some (some v) := fun i h => hv i (List.mem_cons_of_mem _ h)
    have hl' : xs.length = vs.length := by simpa using hl
    obtain ⟨A, eA, hA1, hA2⟩ := cl_app1 (x := x) (xs := xs) (v := v) (vs := vs)
    have o : Own G H (L ++ (cl (x :: xs) (some v :: vs.map some) ++ (cl S σ ++ T))) := o
    rw [eA, List.append_assoc] at o
    have drop : Own G H (L ++ (cl xs (vs.map some) ++ (cl S σ ++ T))) := o.dropMid
    cases r with
    | tmp sh d => exact backA_cls (rs := rs) ag hv' ok.2 hl' drop
    | ref i p => cases p with
      | cons => exact backA_cls (rs := rs) ag hv' ok.2 hl' drop
      | nil => cases x with
        | none => exact backA_cls (rs := rs) ag hv' ok.2 hl' drop
        | some sd =>
          obtain ⟨sh, d⟩ := sd
          obtain ⟨v0, ev, pv⟩ := ok.1
          have pv : v = v0 := pv
          subst pv
          have eA := hA1 sh d rfl
          subst eA
          refine backA_cls (rs := rs) (S := S.set i (some (sh, d))) (ag.set ev) hv' ok.2 hl' ?_
          -- the old claim of the slot, if any, is dropped
          obtain ⟨Z, pz⟩ := cl_unset_sub (S := S) (σ := σ) (i := i)
          have p1 : (L ++ ([(⟨sh, v, d⟩ : Cl)] ++ (cl xs (vs.map some) ++ (cl S σ ++ T)))).Perm (Z ++ (L ++ (cl xs (vs.map some) ++ (((⟨sh, v, d⟩ : Cl) :: cl (S.set i none) σ) ++ T)))) := by
            refine List.Perm.trans (List.Perm.append_left L (List.Perm.append_left _ (List.Perm.append_left _ (pz.append_right T)))) ?_
            rw [List.append_assoc]
            refine List.Perm.trans (List.Perm.append_left L (List.Perm.append_left _ (perm3 _ _ _))) ?_
            refine List.Perm.trans (List.Perm.append_left L (perm3 _ _ _)) ?_
            refine (perm3 _ _ _).trans (List.Perm.append_left Z (List.Perm.append_left L ?_))
            show ((⟨sh, v, d⟩ : Cl) :: (cl xs (vs.map some) ++ (cl (S.set i none) σ ++ T))).Perm _
            exact List.perm_middle.symm
          have o2 := (o.perm p1).drop
          refine o2.perm (List.Perm.append_left L (List.Perm.append_left _ (List.Perm.append_right T ?_)))
          exact (cl_set ag.length ev).symm
  | [], [], _, _ :: _, _, _, _, hl, _, _ => by simp at hl
  | [], _ :: _, _, _, _, _, ok, _, _, _ => ok.elim
  | _ :: _, [], _, _, _, _, ok, _, _, _ => ok.elim
  | _ :: _, _ :: _, _, [], _, _, _, hl, _, _ => by simp at hl
theorem okA_any {σ : Sg} {H H' : Hp} : ∀ {rs : List Rv} {vs : List V}, (∀ r ∈ rs, ∀ i p, r = Rv.ref i p → p = []) → okA G σ H rs vs → okA G σ H' rs vs
  | [], [], _, _ => trivial
  | r :: rs, v :: vs, h, ok => ⟨by
      cases r with
      | tmp => trivial
      | ref i p =>
        have := h _ (List.mem_cons_self ..) i p rfl
        subst this
        exact ok.1, okA_any (fun r hr => h r (List.mem_cons_of_mem _ hr)) ok.2⟩
  | [], _ :: _, _, ok => ok.elim
  | _ :: _, [], _, ok => ok.elim
theorem takeA_plain : ∀ {rs : List Rv} {S : List Slot} {r}, takeA rs S = some r → ∀ x ∈ rs, ∀ i p, x = Rv.ref i p → p = []
  | [], _, _, _, x, h, _, _, _ => by simp at h
  | .tmp sh d :: rs, S, r, e, x, h, i, p, ex => by
    rcases List.mem_cons.mp h with h | h
    · rw [h] at ex; cases ex
    · unfold takeA at e
      split at e
      · rename_i e1; exact takeA_plain e1 x h i p ex
      · cases e
  | .ref j [] :: rs, S, r, e, x, h, i, p, ex => by
    rcases List.mem_cons.mp h with h | h
    · rw [h] at ex; cases ex; rfl
    · unfold takeA at e
      split at e
      · split at e
        · rename_i e1; exact takeA_plain e1 x h i p ex
        · cases e
      · cases e
  | .ref _ (_ :: _) :: _, _, _, e, _, _, _, _, _ => by cases e
theorem okA_refs {σ : Sg} {H : Hp} : ∀ {rs : List Rv} {vs : List V}, okA G σ H rs vs → ∀ i, Rv.ref i [] ∈ rs → ∃ v, σ[i]? = some (some v)
  | [], [], _, i, h => by simp at h
  | r :: rs, v :: vs, ok, i, h => by
    rcases List.mem_cons.mp h with h | h
    · subst h
      obtain ⟨v0, ev, _⟩ := ok.1
      exact ⟨v0, ev⟩
    · exact okA_refs ok.2 i h
  | [], _ :: _, ok, _, _ => ok.elim
  | _ :: _, [], ok, _, _ => ok.elim
/-- how many things a def hands back -/
def Fs.len (f : Fs) : Prop := ∀ as r xs, f as = some (r, xs) → xs.length = as.length
theorem tem_call {f : Fs} (hf : f.len) {as : M (List Rv)} {σ : Sg} {H : Hp} {Q : VK} (h : TEm G W false (mCall f as) σ H Q) : TAm G W q as σ H fun vs H1 => spF G f vs H1 Q (fun cv od H' => W cv od σ H') := by
  obtain ⟨S, T, r, S', ag, ow, e, k⟩ := h
  unfold mCall at e
  split at e
  · cases e
  · rename_i e1
    cases e
    exact ⟨S, T, _, _, ag, ow, e1, k⟩
  · rename_i rs S1 e1
    refine ⟨S, T, _, _, ag, ow, e1, fun vs H1 a1 a2 a3 _ => ?_⟩
    split at e
    · cases e
    · rename_i ads S2 e2
      obtain ⟨hl, ag2, p⟩ := takeA_cls (T := T) a1 a3 e2
      have pl := takeA_plain e2
      split at e
      · cases e
      · rename_i ex xs e3
        cases e
        refine ⟨ads, cl S2 σ ++ T, _, xs, hl, a2.perm p, e3, by rw [hf _ _ _ e3, hl], fun cv od H' o x => ?_⟩
        obtain ⟨b1, b2⟩ := backA_cls (H := H') (T := T) (L := []) ag2 (okA_refs a3) (okA_any pl a3) (by rw [hf _ _ _ e3, hl]) o
        exact k cv od H' b1 b2 x
      · rename_i sh d xs e3
        cases e
        refine ⟨ads, cl S2 σ ++ T, _, xs, hl, a2.perm p, e3, by rw [hf _ _ _ e3, hl], fun v H' o => ?_⟩
        obtain ⟨b1, b2⟩ := backA_cls (H := H') (T := T) (L := [⟨sh, v, d⟩]) ag2 (okA_refs a3) (okA_any pl a3) (by rw [hf _ _ _ e3, hl]) o
        exact k v H' b1 b2 trivial fun hq => by cases hq
theorem pe_mcall {k : Nat} {f : Addr} {fd : FuncData} {ps : List Str} {fs : Fs} {x : Str} {p pos : Pos} {e : Expr} {es : List Expr} {as : M (List Rv)} (hf : fs.len) (F : FnOk X.prog X.w X.K X.mg X.base (L2.CX X.prog X.w) k f fd ps (spF G fs)) (hr : Room k X.A) (hg : Gl X x) (hm : X.mg x = some (.ref f)) (hk : PySem.W.keepIn X.K (.ref f) = true)
    (hb : Binds X.K fd ps []) (tk : L2.Takes X W) (ha : PA X (e :: es) (TAm G W q as)) (hdb : (x == ("__debug__" : Str)) = false) (he : starEach (e :: es) X.env = (false, eval e X.env) :: starEach es X.env) (hpl : (backTo pos (starEach es X.env)).any (·.1) = false) :
    PE X (.Call (.Name x p) (e :: es) [] pos) (TEm G W false (mCall fs as)) :=
  (pe_callS (E := WE W) F hr hg hm hk hb (fun σ => passAt tk σ) ha hdb he hpl).imp fun _ _ _ h => tem_call hf h

/-! a def by its body -/
def keepB (B : Bw) : Nat → List Slot → List Slot
  | _, [] => []
  | j, x :: S => (if B j = true then x else none) :: keepB B (j + 1) S
theorem keepB_len {B : Bw} : ∀ {j : Nat} {S : List Slot}, (keepB B j S).length = S.length
  | _, [] => rfl
  | j, x :: S => by simp [keepB, keepB_len]
/-- the body b over n names, the first ones parameters, of which B are lent -/
def fnS (n : Nat) (B : Bw) (b : MS) : Fs := fun as => if as.length ≤ n then match b (as.map some ++ List.replicate (n - as.length) none) with
    | some (.ok (.rt sh d), S) => if S.length = n then some (.ok (sh, d), keepB B 0 (S.take as.length)) else none
    | some (.ok .nx, S) => if S.length = n then some (.ok (.fz, .non), keepB B 0 (S.take as.length)) else none
    | some (.error e, S) => if S.length = n then some (.error e, keepB B 0 (S.take as.length)) else none
    | _ => none
  else none
theorem fnS_len {n : Nat} {B : Bw} {b : MS} : (fnS n B b).len := fun as r xs h => by
  unfold fnS at h
  split at h
  · rename_i hl
    split at h
    all_goals first
      | (split at h
         · cases h
           rw [keepB_len, List.length_take]
           omega
         · cases h)
      | cases h
  · cases h
theorem cl_rep {n : Nat} : ∀ {S : List Slot} {σ : Sg}, S.length = σ.length → cl (S ++ List.replicate n none) (σ ++ List.replicate n none) = cl S σ
  | [], [], _ => by
    induction n with
    | zero => rfl
    | succ n ih => simpa [cl, List.replicate_succ] using ih
  | [], _ :: _, h => by simp at h
  | _ :: _, [], h => by simp at h
  | none :: S, y :: σ, h => by
    have := cl_rep (n := n) (S := S) (σ := σ) (by simpa using h)
    simpa [cl] using this
  | some (sh, d) :: S, none :: σ, h => by
    have := cl_rep (n := n) (S := S) (σ := σ) (by simpa using h)
    simpa [cl] using this
  | some (sh, d) :: S, some v :: σ, h => by
    have := cl_rep (n := n) (S := S) (σ := σ) (by simpa using h)
    simpa [cl] using this
theorem Ag.rep {n : Nat} : ∀ {S : List Slot} {σ : Sg}, Ag S σ → Ag (S ++ List.replicate n none) (σ ++ List.replicate n none)
  | [], [], _ => by
    induction n with
    | zero => trivial
    | succ n ih => simpa [Ag, List.replicate_succ] using ih
  | [], _ :: _, h => h.elim
  | none :: _, [], h => h.elim
  | some _ :: _, [], h => h.elim
  | none :: S, y :: σ, h => Ag.rep (n := n) (S := S) (σ := σ) h
  | some _ :: S, none :: σ, h => h.elim
  | some _ :: S, some v :: σ, h => Ag.rep (n := n) (S := S) (σ := σ) h
theorem Ag.args : ∀ {as : List (Sh × D)} {vs : List V}, as.length = vs.length → Ag (as.map some) (vs.map some)
  | [], [], _ => trivial
  | [], _ :: _, h => by simp at h
  | _ :: _, [], h => by simp at h
  | _ :: as, _ :: vs, h => Ag.args (as := as) (vs := vs) (by simpa using h)
/-- the lent parameters' claims at the end: their slots are bound as they were -/
theorem keep_cls : ∀ {j : Nat} {B : Bw} {S : List Slot} {σ : Sg} {vs : List V}, Ag S σ → (∀ i, B (j + i) = true → ∀ v, vs[i]? = some v → σ[i]? = some (some v)) → vs.length ≤ σ.length → ∃ A, (cl S σ).Perm (A ++ cl (keepB B j (S.take vs.length)) (vs.map some))
  | j, B, S, σ, [], ag, h, _ => ⟨cl S σ, by simp [keepB, cl]⟩
  | j, B, [], σ, v :: vs, ag, h, hl => by
    cases σ with
    | nil => simp at hl
    | cons => exact ag.elim
  | j, B, x :: S, [], v :: vs, ag, h, hl => by simp at hl
  | j, B, x :: S, y :: σ, v :: vs, ag, h, hl => by
    have ag' : Ag S σ := by
      cases x with
      | none => exact ag
      | some _ => cases y with
        | none => exact ag.elim
        | some _ => exact ag
    obtain ⟨A, p⟩ := keep_cls (j := j + 1) (B := B) (S := S) (σ := σ) (vs := vs) ag' (fun i hi w hw => by
      have := h (i + 1) (by rw [← hi]; congr 1; omega) w (by simpa using hw)
      simpa using this) (by simpa using hl)
    have hk : keepB B j ((x :: S).take (v :: vs).length) = (if B j = true then x else none) :: keepB B (j + 1) (S.take vs.length) := by simp [keepB]
    rw [hk]
    cases x with
    | none => exact ⟨A, by simpa [cl] using p⟩
    | some sd =>
      obtain ⟨sh, d⟩ := sd
      cases y with
      | none => exact ag.elim
      | some w =>
        by_cases hb : B j = true
        · rw [if_pos hb]
          have := h 0 (by simpa using hb) v rfl
          simp at this
          subst this
          refine ⟨A, ?_⟩
          show ((⟨sh, w, d⟩ : Cl) :: cl S σ).Perm (A ++ (⟨sh, w, d⟩ :: cl _ _))
          exact (p.cons _).trans List.perm_middle.symm
        · rw [if_neg hb]
          refine ⟨⟨sh, w, d⟩ :: A, ?_⟩
          show ((⟨sh, w, d⟩ : Cl) :: cl S σ).Perm (⟨sh, w, d⟩ :: (A ++ cl _ _))
          exact p.cons _
theorem fn_m {P : Program} {w : World} {K : PySem.W.Frag} {mg : Str → Option Value} {base : Heap} {x qual : Str} {st : Stmt} {f : Addr} {fd : FuncData} {N ps : List Str} {k n : Nat} {b : MS} (F : Fun K x qual st f fd) (S : FnScope N ps (defScope st)) (hn : N.length = n)
    (hbody : ∀ (cdv : Value) (A : Around) (outer : List Env) (s : Shared) (H : Hp) (E : XK), Room k (A.deeper (envOfC qual (defScope st) s.heap.objs.size f cdv)) →
      PSs (cxOf (L2.CX P w) P w K mg base N qual (defScope st) f cdv A outer s H E) (defBody st) (TSm G (fun cv od _ H' => E cv od H') B b)) :
    FnOk P w K mg base (L2.CX P w) (k + 1) f fd ps (fun vs H Q E => vs.length = ps.length ∧ spF G (fnS n B b) vs H Q E) := by
  refine F.okX S (fun vs H Q E h => h.1) fun cdv A outer s H vs Q E hr h => ⟨_, hbody cdv A outer s H E hr, ?_⟩
  obtain ⟨hps, as, T, r, xs, hl, o, e, hx, q⟩ := h
  have hpl : ps.length ≤ N.length := by
    have := congrArg List.length S.pre
    rw [List.length_take] at this
    omega
  unfold fnS at e
  have hst : L2.start N vs = vs.map some ++ List.replicate (n - as.length) none := by unfold L2.start; rw [hn, hl]
  have ag : Ag (as.map some ++ List.replicate (n - as.length) none) (L2.start N vs) := by rw [hst]; exact (Ag.args hl).rep
  have ow : Own G H (cl (as.map some ++ List.replicate (n - as.length) none) (L2.start N vs) ++ T) := by
    rw [hst, cl_rep (by simpa using hl)]
    exact o
  have hv : ∀ i v, vs[i]? = some v → (L2.start N vs)[i]? = some (some v) := fun i v hi => by
    rw [hst, List.getElem?_append_left (by rw [List.length_map]; exact (List.getElem?_eq_some_iff.mp hi).1), List.getElem?_map, hi]
    rfl
  have fin : ∀ {S' : List Slot} {σ' : Sg} {H' : Hp} {L : List Cl}, S'.length = n → Ag S' σ' → Own G H' (L ++ (cl S' σ' ++ T)) → Kb B (L2.start N vs) σ' → Own G H' (L ++ (cl (keepB B 0 (S'.take as.length)) (vs.map some) ++ T)) := fun {S' σ' H' L} hS a1 a2 kb => by
    obtain ⟨A, p⟩ := keep_cls (j := 0) (B := B) (vs := vs) a1 (fun i hi v hiv => by
      rw [kb i (by simpa using hi)]
      exact hv i v hiv) (by rw [← a1.length, hS]; omega)
    rw [hl]
    have p2 := List.Perm.append_left L (p.append_right T)
    have o2 := a2.perm p2
    rw [List.append_assoc] at o2
    exact o2.dropMid
  split at e
  · split at e
    · rename_i sh d S' eb
      split at e
      · rename_i hS
        cases e
        exact ⟨_, T, _, _, ag, ow, eb, fun v σ' H' a1 a2 kb => q v H' (fin (L := [⟨sh, v, d⟩]) hS a1 a2 kb)⟩
      · cases e
    · rename_i S' eb
      split at e
      · rename_i hS
        cases e
        exact ⟨_, T, _, _, ag, ow, eb, fun σ' H' a1 a2 kb => q .non H' (Own.nonC (fin (L := []) hS a1 a2 kb))⟩
      · cases e
    · rename_i ex S' eb
      split at e
      · rename_i hS
        cases e
        exact ⟨_, T, _, _, ag, ow, eb, fun cv od σ' H' a1 a2 kb x => q cv od H' (fin (L := []) hS a1 a2 kb) x⟩
      · cases e
    · cases e
  · cases e
end
end Dt

/-! Built-ins. -/
namespace Dt
open PySem PySem.Spec PyProof.Rows L2

section
variable {X : Cx} {G : Gm} {W : WX} {B : Bw} {q q1 q2 : Bool}
theorem pe_mbi {x : Str} {id : String} {r : List V → Hp → VK → Prop} {f : List D → Option (Sh × D)} {p pos : Pos} {e : Expr} {es : List Expr} {as : M (List Rv)} (hc : CallR X (.builtin id) r) (F : FunOk G r f) (hg : Gl X x) (hm : X.mg x = none) (hv : bootBuiltins x = some (.builtin id)) (ha : PA X (e :: es) (TAm G W q as)) (hn : x ≠ "__name__") (hdb : (x == ("__debug__" : Str)) = false)
    (he : starEach (e :: es) X.env = (false, eval e X.env) :: starEach es X.env) (hpl : (backTo pos (starEach es X.env)).any (·.1) = false) : PE X (.Call (.Name x p) (e :: es) [] pos) (TEm G W q (mFun f as)) :=
  (pe_callB hc hg hm hv ha hn hdb he hpl).imp fun _ _ _ h => tem_fun F h
theorem pe_mty {x : Str} {id : String} {r : List V → Hp → VK → Prop} {f : List D → Option (Sh × D)} {p pos : Pos} {e : Expr} {es : List Expr} {as : M (List Rv)} (hc : CallR X (.type id) r) (F : FunOk G r f) (hg : Gl X x) (hm : X.mg x = none) (hv : bootBuiltins x = some (.type id)) (ha : PA X (e :: es) (TAm G W q as)) (hn : x ≠ "__name__") (hdb : (x == ("__debug__" : Str)) = false)
    (he : starEach (e :: es) X.env = (false, eval e X.env) :: starEach es X.env) (hpl : (backTo pos (starEach es X.env)).any (·.1) = false) : PE X (.Call (.Name x p) (e :: es) [] pos) (TEm G W q (mFun f as)) :=
  (pe_callTy hc hg hm hv ha hn hdb he hpl).imp fun _ _ _ h => tem_fun F h
end
section
variable {G : Gm}
theorem FunOk.one {r : List V → Hp → VK → Prop} {f : D → Option (Sh × D)} (h : ∀ (H : Hp) (L : List Cl) (O : List Addr) (v : V) (d0 : D) (sh : Sh) (d : D) (Q : VK), OwnO G H L O → RX G (fun a => a ∉ O) H v d0 → f d0 = some (sh, d) → (∀ v H', Same H H' → Own G H' (⟨sh, v, d⟩ :: L) → Q v H') → r [v] H Q) : FunOk G r (on1 f) := by
  intro H L O vs ds sh d Q o rx e k
  cases rx with
  | nil => cases e
  | cons h1 rx => cases rx with
    | nil => exact h H L O _ _ sh d Q o h1 e k
    | cons h2 rx => cases e
theorem FunOk.two {r : List V → Hp → VK → Prop} {f : D → D → Option (Sh × D)} (h : ∀ (H : Hp) (L : List Cl) (O : List Addr) (v w : V) (d0 d1 : D) (sh : Sh) (d : D) (Q : VK), OwnO G H L O → RX G (fun a => a ∉ O) H v d0 → RX G (fun a => a ∉ O) H w d1 → f d0 d1 = some (sh, d) → (∀ v H', Same H H' → Own G H' (⟨sh, v, d⟩ :: L) → Q v H') → r [v, w] H Q) : FunOk G r (on2 f) := by
  intro H L O vs ds sh d Q o rx e k
  cases rx with
  | nil => cases e
  | cons h1 rx => cases rx with
    | nil => cases e
    | cons h2 rx => cases rx with
      | nil => exact h H L O _ _ _ _ sh d Q o h1 h2 e k
      | cons h3 rx => cases e

/-- len -/
def lenF : D → Option (Sh × D)
  | .str x => if x.length ≤ sizeLine then some (.fz, .int x.length) else none
  | .lst xs => some (.fz, .int xs.length)
  | .tup xs => some (.fz, .int xs.length)
  | _ => none
def rLenD (K : PySem.W.Frag) : List V → Hp → VK → Prop := fun xs H Q => (∃ p ys, xs = [.ref p] ∧ (SqL K H p ys ∨ SqT K H p ys) ∧ Q (.int ys.length) H) ∨ (∃ z, xs = [.str z] ∧ z.length ≤ sizeLine ∧ Q (.int z.length) H)
theorem call_lenD {X : Cx} : CallR X (.builtin "len") (rLenD X.K) := call_len_seq.or call_len_str
theorem fun_len : FunOk G (rLenD G.K) (on1 lenF) := FunOk.one fun H L O v d0 sh d Q o rx e k => by
  unfold lenF at e
  split at e
  · split at e
    · rename_i hz
      cases e
      cases rx.str_at
      refine .inr ⟨_, rfl, by rw [str_len]; exact hz, ?_⟩
      rw [str_len]
      exact k _ H (Same.refl H) ⟨O, o.cons (.int _)⟩
    · cases e
  · cases e
    obtain ⟨a, vs, rfl, t, r⟩ := rx.lst_at
    refine .inl ⟨a, vs, rfl, .inl t, ?_⟩
    rw [r.length]
    exact k _ H (Same.refl H) ⟨O, o.cons (.int _)⟩
  · cases e
    obtain ⟨a, vs, rfl, t, r⟩ := rx.tup_at
    refine .inl ⟨a, vs, rfl, .inr t, ?_⟩
    rw [r.length]
    exact k _ H (Same.refl H) ⟨O, o.cons (.int _)⟩
  · cases e
def absF : D → Option (Sh × D)
  | .int i => some (.fz, .int (if i < 0 then -i else i))
  | _ => none
theorem fun_abs : FunOk G (fun xs H Q => ∃ i, xs = [.int i] ∧ Q (.int (if i < 0 then -i else i)) H) (on1 absF) := FunOk.one fun H L O v d0 sh d Q o rx e k => by
  unfold absF at e
  split at e
  · cases e
    cases rx.int_at
    exact ⟨_, rfl, k _ H (Same.refl H) ⟨O, o.cons (.int _)⟩⟩
  · cases e
def intF : D → Option (Sh × D)
  | .int i => some (.fz, .int i)
  | .bl b => some (.fz, .int (if b then 1 else 0))
  | _ => none
theorem fun_int : FunOk G (fun xs H Q => (∃ i, xs = [.int i] ∧ Q (.int i) H) ∨ ∃ k, xs = [.bl k] ∧ Q (.int (if k then 1 else 0)) H) (on1 intF) := FunOk.one fun H L O v d0 sh d Q o rx e k => by
  unfold intF at e
  split at e
  · cases e
    cases rx.int_at
    exact .inl ⟨_, rfl, k _ H (Same.refl H) ⟨O, o.cons (.int _)⟩⟩
  · cases e
    cases rx.bl_at
    exact .inr ⟨_, rfl, k _ H (Same.refl H) ⟨O, o.cons (.int _)⟩⟩
  · cases e
def minF : D → D → Option (Sh × D)
  | .int i, .int j => some (.fz, .int (if j < i then j else i))
  | _, _ => none
def maxF : D → D → Option (Sh × D)
  | .int i, .int j => some (.fz, .int (if j > i then j else i))
  | _, _ => none
theorem fun_min : FunOk G (fun xs H Q => ∃ i j, xs = [.int i, .int j] ∧ Q (.int (if j < i then j else i)) H) (on2 minF) := FunOk.two fun H L O v w d0 d1 sh d Q o rx ry e k => by
  unfold minF at e
  split at e
  · cases e
    cases rx.int_at
    cases ry.int_at
    exact ⟨_, _, rfl, k _ H (Same.refl H) ⟨O, o.cons (.int _)⟩⟩
  · cases e
theorem fun_max : FunOk G (fun xs H Q => ∃ i j, xs = [.int i, .int j] ∧ Q (.int (if j > i then j else i)) H) (on2 maxF) := FunOk.two fun H L O v w d0 d1 sh d Q o rx ry e k => by
  unfold maxF at e
  split at e
  · cases e
    cases rx.int_at
    cases ry.int_at
    exact ⟨_, _, rfl, k _ H (Same.refl H) ⟨O, o.cons (.int _)⟩⟩
  · cases e
/-- list(x), tuple(x) of a list or a tuple -/
def listF : D → Option (Sh × D)
  | .lst xs => some (.lst .fz, .lst xs)
  | .tup xs => some (.lst .fz, .lst xs)
  | _ => none
theorem fun_list : FunOk G (fun xs H Q => ∃ p ys, xs = [.ref p] ∧ (SqL G.K H p ys ∨ SqT G.K H p ys) ∧ ∀ l, H l = none → Q (.ref l) (upd H l (.lst ys))) (on1 listF) := FunOk.one fun H L O v d0 sh d Q o rx e k => by
  unfold listF at e
  split at e
  · cases e
    obtain ⟨a, vs, rfl, t, r⟩ := rx.lst_at
    exact ⟨a, vs, rfl, .inl t, fun p hp => k _ _ (upd_new hp) (o.newLst r hp)⟩
  · cases e
    obtain ⟨a, vs, rfl, t, r⟩ := rx.tup_at
    exact ⟨a, vs, rfl, .inr t, fun p hp => k _ _ (upd_new hp) (o.newLst r hp)⟩
  · cases e
def tupF : D → Option (Sh × D)
  | .lst xs => some (.fz, .tup xs)
  | .tup xs => some (.fz, .tup xs)
  | _ => none
theorem fun_tup : FunOk G (fun xs H Q => ∃ p ys, xs = [.ref p] ∧ ((SqL G.K H p ys ∧ ∀ l, H l = none → Q (.ref l) (upd H l (.tup ys))) ∨ (SqT G.K H p ys ∧ Q (.ref p) H))) (on1 tupF) := FunOk.one fun H L O v d0 sh d Q o rx e k => by
  unfold tupF at e
  split at e
  · cases e
    obtain ⟨a, vs, rfl, t, r⟩ := rx.lst_at
    exact ⟨a, vs, rfl, .inl ⟨t, fun p hp => k _ _ (upd_new hp) ⟨O, o.newTup r hp⟩⟩⟩
  · cases e
    cases rx with
    | fz rf =>
      obtain ⟨a, vs, rfl, t, r⟩ := RX.tup_at (.fz rf)
      exact ⟨a, vs, rfl, .inr ⟨t, k _ H (Same.refl H) ⟨O, o.cons rf⟩⟩⟩
  · cases e

/-! order -/
def ltB (a b : D) : Option Bool := match a, b with
  | .int i, .int j => some (decide (i < j))
  | .str x, .str y => some (decide (x < y))
  | .tup xs, .tup ys => match D.py (.tup xs), D.py (.tup ys) with
    | some p, some p' => if PySem.W.alike p p' = true ∧ p.depth ≤ 64 then some (PySem.W.dataLt p p') else none
    | _, _ => none
  | _, _ => none
def ltF (a b : D) : Option (Sh × D) := (ltB a b).map fun c => (.fz, .bl c)
def rLtD (K : PySem.W.Frag) : R2 := fun x y H Q => ∃ d e, Dp K H x (.tuple d) ∧ Dp K H y e ∧ PySem.W.alike (.tuple d) e = true ∧ (PyData.tuple d).depth ≤ 64 ∧ Q (.bl (PySem.W.dataLt (.tuple d) e)) H
theorem op_ltD {X : Cx} (hu : X.A.units + 64 < cLine) : OpR X (compareOp .Lt) (rLtD X.K) := by
  intro pins s σ H x y v u Q I rx ry h
  obtain ⟨d, e, hd, he, al, dp, q⟩ := h
  obtain ⟨as, r1⟩ := Dp.reads I _ x v hd rx
  obtain ⟨bs, r2⟩ := Dp.reads I e y u he ry
  have hm : min (PyData.tuple d).depth e.depth ≤ (PyData.tuple d).depth := Nat.min_le_left _ _
  exact PySem.W.rcLt_alike _ _ _ _ _ _ _ _ r1 r2 al (by intro z; cases z) (by omega) _ _ _ _ ⟨.bl _, H, I, rfl, q⟩
def rLt (K : PySem.W.Frag) : R2 := fun x y H Q => rI0 (fun i j => .bl (decide (i < j))) x y H Q ∨ (∃ i j, x = .str i ∧ y = .str j ∧ Q (.bl (decide (i.cps.toList < j.cps.toList))) H) ∨ rLtD K x y H Q
theorem op_ltA {X : Cx} (hu : X.A.units + 64 < cLine) : OpR X (compareOp .Lt) (rLt X.K) := OpR.or op_lt (OpR.or op_lt_str (op_ltD hu))
theorem fun_lt : Fun2 G (rLt G.K) ltF := Fun2.mk fun H L O v1 v2 d1 d2 sh d Q o h1 h2 e k => by
  unfold ltF ltB at e
  split at e
  · cases e
    cases h1.int_at; cases h2.int_at
    exact .inl ⟨_, _, rfl, rfl, k _ H (Same.refl H) ⟨O, o.cons (.bl _)⟩⟩
  · cases e
    cases h1.str_at; cases h2.str_at
    exact .inr (.inl ⟨_, _, rfl, rfl, k _ H (Same.refl H) ⟨O, o.cons (.bl _)⟩⟩)
  · split at e
    · rename_i p p' e1 e2
      split at e
      · rename_i c
        cases e
        have e3 := e1
        unfold D.py at e3
        split at e3
        · cases e3
          exact .inr (.inr ⟨_, _, h1.dp e1, h2.dp e2, c.1, c.2, k _ H (Same.refl H) ⟨O, o.cons (.bl _)⟩⟩)
        · cases e3
      · cases e
    · cases e
  · cases e
def gtF : D → D → Option (Sh × D)
  | .int i, .int j => some (.fz, .bl (decide (j < i)))
  | _, _ => none
def leF : D → D → Option (Sh × D)
  | .int i, .int j => some (.fz, .bl (decide (i ≤ j)))
  | _, _ => none
def geF : D → D → Option (Sh × D)
  | .int i, .int j => some (.fz, .bl (decide (j ≤ i)))
  | _, _ => none
theorem fun_gt : Fun2 G (rI0 fun i j => .bl (decide (j < i))) gtF := Fun2.mk fun H L O v1 v2 d1 d2 sh d Q o h1 h2 e k => by
  unfold gtF at e
  split at e
  · cases e
    cases h1.int_at; cases h2.int_at
    exact ⟨_, _, rfl, rfl, k _ H (Same.refl H) ⟨O, o.cons (.bl _)⟩⟩
  · cases e
theorem fun_le : Fun2 G (rI0 fun i j => .bl (decide (i ≤ j))) leF := Fun2.mk fun H L O v1 v2 d1 d2 sh d Q o h1 h2 e k => by
  unfold leF at e
  split at e
  · cases e
    cases h1.int_at; cases h2.int_at
    exact ⟨_, _, rfl, rfl, k _ H (Same.refl H) ⟨O, o.cons (.bl _)⟩⟩
  · cases e
theorem fun_ge : Fun2 G (rI0 fun i j => .bl (decide (j ≤ i))) geF := Fun2.mk fun H L O v1 v2 d1 d2 sh d Q o h1 h2 e k => by
  unfold geF at e
  split at e
  · cases e
    cases h1.int_at; cases h2.int_at
    exact ⟨_, _, rfl, rfl, k _ H (Same.refl H) ⟨O, o.cons (.bl _)⟩⟩
  · cases e

/-! isinstance -/
def tyN : D → Option String
  | .non => some "NoneType"
  | .bl _ => some "bool"
  | .int _ => some "int"
  | .str _ => some "str"
  | .tup _ => some "tuple"
  | .lst _ => some "list"
  | _ => none
def isiF : D → D → Option (Sh × D)
  | x, .ty u => match tyN x with
    | some t => (kitB t u).map fun b => (.fz, .bl b)
    | none => none
  | _, _ => none
theorem RX.ty_at {N : Addr → Prop} {H : Hp} {v : V} {n : String} (h : RX G N H v (.ty n)) : v = .ty n := by cases h with | fz h => cases h; rfl
theorem Rd.tyL {K : PySem.W.Frag} {H : Hp} {a : Addr} {vs : List V} (h : SqL K H a vs) : TyX K H (.ref a) (.type "list") := by
  rcases h with (h | ⟨o, h⟩) | ⟨o, its, n, h1, h2, _⟩
  · exact .base (.lst h)
  · exact .base (.frz h)
  · exact .kList h1 h2
theorem Rd.tyT {K : PySem.W.Frag} {H : Hp} {a : Addr} {vs : List V} (h : SqT K H a vs) : TyX K H (.ref a) (.type "tuple") := by
  rcases h with (h | ⟨o, h⟩) | ⟨o, its, n, h1, h2, _⟩
  · exact .base (.tup h)
  · exact .fTuple h
  · exact .kTuple h1 h2
theorem RX.tyx {N : Addr → Prop} {H : Hp} {v : V} {d : D} {t : String} (h : RX G N H v d) (e : tyN d = some t) : TyX G.K H v (.type t) := by
  unfold tyN at e
  split at e
  · cases e; cases h.non_at; exact .base .non
  · cases e; cases h.bl_at; exact .base (.bl _)
  · cases e; cases h.int_at; exact .base (.int _)
  · cases e; cases h.str_at; exact .base (.str _)
  · cases e
    obtain ⟨a, vs, rfl, s, _⟩ := h.tup_at
    exact Rd.tyT s
  · cases e
    obtain ⟨a, vs, rfl, s, _⟩ := h.lst_at
    exact Rd.tyL s
  · cases e
theorem fun_isi : FunOk G (rIsi G.K) (on2 isiF) := FunOk.two fun H L O v w d0 d1 sh d Q o rx ry e k => by
  unfold isiF at e
  split at e
  · rename_i u
    split at e
    · rename_i t et
      cases hb : kitB t u with
      | none => rw [hb] at e; cases e
      | some b =>
        rw [hb] at e
        cases e
        cases ry.ty_at
        exact ⟨v, .ty u, .type t, .type u, b, rfl, .ty u, rx.tyx et, kit_ty hb, k _ H (Same.refl H) ⟨O, o.cons (.bl _)⟩⟩
    · cases e
  · cases e
/-- a built-in type as a value -/
theorem pe_mtyv {X : Cx} {W : WX} {x : Str} {n : String} {pos : Pos} (hg : Gl X x) (hm : X.mg x = none) (hv : bootBuiltins x = some (.type n)) (hn : x ≠ "__name__") (hd : (x == ("__debug__" : Str)) = false) : PE X (.Name x pos) (TEm G W true (mCon (.ty n))) :=
  (pe_bltn (v := .ty n) hg hm hv rfl hn hd).imp fun _ _ _ h => con_ok (fun _ _ => .ty n) h

/-! sorted -/
def pyD (d : D) : PyData := d.py.getD .none
def leD (a b : D) : Bool := PySem.W.dataLe false pyD a b
def sortD (ds : List D) : List D := ds.mergeSort leD
def sortable (ps : List PyData) : Bool := (ps.all fun d => match d with
    | .tuple (_ :: _) => true
    | _ => false) || ps.all fun d => match d with
    | .none => false
    | .tuple _ => false
    | _ => true
def sortOk (ds : List D) : Bool := match D.pys ds with
  | some ps => (ps.all fun d => ps.all fun d' => PySem.W.alike d d') && sortable ps && decide (ds.length ≤ sizeLine) && ps.all fun d => decide (d.depth ≤ 60)
  | none => false
def sortedF : D → Option (Sh × D)
  | .lst ds => if sortOk ds = true then some (.lst .fz, .lst (sortD ds)) else none
  | _ => none
def rSortD (K : PySem.W.Frag) : List V → Hp → VK → Prop := fun xs H Q => ∃ (a : Addr) (bs : List (V × D)), xs = [.ref a] ∧ SqL K H a (bs.map (·.1)) ∧ (∀ b ∈ bs, Dp K H b.1 (pyD b.2)) ∧ sortOk (bs.map (·.2)) = true ∧
  ∀ p, H p = none → Q (.ref p) (upd H p (.lst ((bs.mergeSort fun a b => leD a.2 b.2).map (·.1))))
theorem pys_map : ∀ {ds : List D} {ps}, D.pys ds = some ps → ds.map pyD = ps
  | [], ps, e => by simp [D.pys] at e; subst e; rfl
  | d :: ds, ps, e => by
    unfold D.pys at e
    split at e
    · rename_i y ys e1 e2
      cases e
      simp [pyD, e1, pys_map e2]
    · cases e
theorem sortable_of {ps : List PyData} (h : sortable ps = true) : PySem.W.Sortable ps := by
  unfold sortable at h
  rw [Bool.or_eq_true] at h
  rcases h with h | h
  · refine .inl fun d hd => ?_
    have := List.all_eq_true.mp h d hd
    split at this
    · exact ⟨_, _, rfl⟩
    · cases this
  · refine .inr fun d hd => ?_
    have := List.all_eq_true.mp h d hd
    refine ⟨fun e => ?_, fun xs e => ?_⟩
    · subst e; cases this
    · subst e; cases this
theorem each_of_vals {α : Type} {f : α → V} : ∀ {bs : List α} {us : List Value}, Vals (bs.map f) us → PySem.W.EachIs (fun u b => RelV (f b) u) us bs
  | [], _, .nil => .nil
  | _ :: _, _, .cons h r => .cons h (each_of_vals r)
theorem vals_of_each {α : Type} {f : α → V} : ∀ {bs : List α} {us : List Value}, PySem.W.EachIs (fun u b => RelV (f b) u) us bs → Vals (bs.map f) us
  | [], _, .nil => .nil
  | _ :: _, _, .cons h r => .cons h (vals_of_each r)
theorem each_imp_mem {α β : Type} {R R' : α → β → Prop} : ∀ {us : List α} {bs : List β}, PySem.W.EachIs R us bs → (∀ u b, b ∈ bs → R u b → R' u b) → PySem.W.EachIs R' us bs
  | _, _, .nil, _ => .nil
  | _, _, .cons h r, i => .cons (i _ _ (by simp) h) (each_imp_mem r fun u b hb => i u b (by simp [hb]))
theorem call_sortD {X : Cx} (hu : X.A.units + 64 < cLine) : CallR X (.builtin "sorted") (rSortD X.K) := by
  intro pins s σ H vs us Q I r h
  obtain ⟨a, bs, rfl, hs, hd, ok, q⟩ := h
  obtain ⟨its, rv, hl, _⟩ := I.list hs
  rw [Vals.ref1 r]
  unfold sortOk at ok
  split at ok
  · rename_i ps eps
    rw [Bool.and_eq_true, Bool.and_eq_true, Bool.and_eq_true] at ok
    obtain ⟨⟨⟨o1, o2⟩, o3⟩, o4⟩ := ok
    have em : bs.map (fun b => pyD b.2) = ps := by
      have := pys_map eps
      rw [List.map_map] at this
      exact this
    have hal : PySem.W.AllAlike (bs.map fun b => pyD b.2) := by
      rw [em]
      intro d hd d' hd'
      exact List.all_eq_true.mp (List.all_eq_true.mp o1 d hd) d' hd'
    have hlen : bs.length ≤ sizeLine := by simpa using o3
    have ee : PySem.W.EachIs (fun u (b : V × D) => RelV b.1 u) its bs := each_of_vals rv
    refine PySem.W.sorted_data (enc := fun (b : V × D) => pyD b.2) (R := fun u (b : V × D) => RelV b.1 u) hl.isList ee (each_imp_mem ee fun u b hb ru => ?_) hal (by rw [em]; exact sortable_of o2) hlen (fun b hb => ?_) fun out ho he => ?_
    · exact Dp.reads I _ _ _ (hd b hb) ru
    · have : pyD b.2 ∈ ps := by rw [← em]; exact List.mem_map.mpr ⟨b, hb, rfl⟩
      have := of_decide_eq_true (List.all_eq_true.mp o4 _ this)
      omega
    · obtain ⟨ep, he'⟩ := PyProof.Rows.sortedAll_at s.heap its out.toArray
      have he2 : PySem.W.EachIs (fun u (b : V × D) => RelV b.1 u) out (bs.mergeSort fun a b => leD a.2 b.2) := he
      have hv := vals_of_each he2
      refine ⟨.ref _, upd H (s.heap.objs.size + 1) (.lst ((bs.mergeSort fun a b => leD a.2 b.2).map (·.1))), I.laid (t' := s.toks) (fun _ _ => PyProof.Rows.sortedAll_old) (Nat.le_succ _) ⟨?_, out, ep, hv, he'⟩, rfl, q _ (I.hok.fresh (Nat.le_succ _))⟩
      rw [List.length_map, List.length_mergeSort]
      exact hlen
  · cases ok
theorem zip_map_fst {α β : Type} : ∀ {l : List α} {r : List β}, l.length = r.length → (l.zip r).map (·.1) = l
  | [], [], _ => rfl
  | [], _ :: _, h => by simp at h
  | _ :: _, [], h => by simp at h
  | _ :: l, _ :: r, h => by simp [zip_map_fst (l := l) (r := r) (by simpa using h)]
theorem zip_map_snd {α β : Type} : ∀ {l : List α} {r : List β}, l.length = r.length → (l.zip r).map (·.2) = r
  | [], [], _ => rfl
  | [], _ :: _, h => by simp at h
  | _ :: _, [], h => by simp at h
  | _ :: l, _ :: r, h => by simp [zip_map_snd (l := l) (r := r) (by simpa using h)]
theorem RFs.zip_mem {N : Addr → Prop} {H : Hp} : ∀ {vs ds}, RFs G N H vs ds → ∀ b ∈ vs.zip ds, RF G N H b.1 b.2
  | _, _, .nil, b, h => by simp at h
  | _, _, .cons h r, b, hb => by
    rcases List.mem_cons.mp hb with rfl | hb
    · exact h
    · exact r.zip_mem b hb
theorem RFs.of_zip {N : Addr → Prop} {H : Hp} : ∀ {bs : List (V × D)}, (∀ b ∈ bs, RF G N H b.1 b.2) → RFs G N H (bs.map (·.1)) (bs.map (·.2))
  | [], _ => .nil
  | b :: bs, h => .cons (h b (by simp)) (RFs.of_zip fun b hb => h b (by simp [hb]))
theorem sortOk_py {ds : List D} (h : sortOk ds = true) : ∀ d ∈ ds, d.py = some (pyD d) := by
  unfold sortOk at h
  split at h
  · rename_i ps e
    clear h
    induction ds generalizing ps with
    | nil => intro d hd; simp at hd
    | cons x xs ih =>
      unfold D.pys at e
      split at e
      · rename_i y ys e1 e2
        intro d hd
        rcases List.mem_cons.mp hd with rfl | hd
        · rw [pyD, e1]; rfl
        · exact ih ys e2 d hd
      · cases e
  · cases h
theorem fun_sorted : FunOk G (rSortD G.K) (on1 sortedF) := FunOk.one fun H L O v d0 sh d Q o rx e k => by
  unfold sortedF at e
  split at e
  · rename_i ds
    split at e
    · rename_i ok
      cases e
      obtain ⟨a, vs, rfl, t, r⟩ := rx.lst_at
      have hl := r.length
      refine ⟨a, vs.zip ds, rfl, by rw [zip_map_fst hl]; exact t, fun b hb => ?_, by rw [zip_map_snd hl]; exact ok, fun p hp => ?_⟩
      · have rb := r.zip_mem b hb
        exact rb.dp (sortOk_py ok b.2 (by rw [← zip_map_snd hl]; exact List.mem_map.mpr ⟨b, hb, rfl⟩))
      · have rs : RFs G (fun a => a ∉ O) H (((vs.zip ds).mergeSort fun a b => leD a.2 b.2).map (·.1)) (((vs.zip ds).mergeSort fun a b => leD a.2 b.2).map (·.2)) := RFs.of_zip fun b hb => r.zip_mem b ((List.mergeSort_perm _ _).mem_iff.mp hb)
        have em : ((vs.zip ds).mergeSort fun a b => leD a.2 b.2).map (·.2) = sortD ds := by
          unfold sortD
          rw [List.map_mergeSort (s := leD) (by intros; rfl), zip_map_snd hl]
        rw [em] at rs
        exact k _ _ (upd_new hp) (o.newLst rs hp)
    · cases e
  · cases e
end
end Dt

/-! Methods of built-in types. -/
namespace Dt
open PySem PySem.Spec PyProof.Rows L2

/-- the receiver: of the type T -/
def tyM : D → Option String
  | .str _ => some "str"
  | .lst _ => some "list"
  | _ => none
def shOk : Sh → Bool
  | .no => false
  | .adr => false
  | _ => true
def mRecv (T : String) (m : M Rv) : M Rv := fun S => match m S with
  | none => none
  | some (.error e, S1) => some (.error e, S1)
  | some (.ok rv, S1) => match rv.see S1 with
    | some (sh, d) => if shOk sh = true ∧ tyM d = some T then some (.ok rv, S1) else none
    | none => none
/-- xs.append(x) -/
def mAppend (as : M (List Rv)) : M Rv := fun S => match as S with
  | none => none
  | some (.error e, S1) => some (.error e, S1)
  | some (.ok [.ref i [], .tmp sh d], S1) => match S1[i]? with
    | some (some (.lst c, .lst ds)) => if fits c sh = true ∧ ds.length < sizeLine then some (.ok (.tmp .fz .non), S1.set i (some (.lst c, .lst (ds ++ [d])))) else none
    | _ => none
  | _ => none
section
variable {X : Cx} {G : Gm} {W : WX} {B : Bw} {q q0 q1 q2 : Bool}
theorem see_rt {S : List Slot} {σ : Sg} {H : Hp} {T : List Cl} {O : List Addr} (ag : Ag S σ) {r : Rv} {v : V} {sh d} (o : OwnO G H (r.cls v ++ (cl S σ ++ T)) O) (ok : r.ok G σ H v) (e : r.see S = some (sh, d)) : ∃ f, RT G (fun a => a ∉ O) H sh v d f := by
  cases r with
  | tmp sh' d' =>
    cases e
    exact o.1.mem (t := ⟨sh, v, d⟩) (List.mem_append_left _ (by simp [Rv.cls]))
  | ref i p =>
    obtain ⟨v0, ev, pv⟩ := ok
    have e : (match S[i]? with | some (some sd) => pathD sd p | _ => none) = some (sh, d) := e
    cases hS : S[i]? with
    | none => rw [hS] at e; cases e
    | some y => cases y with
      | none => rw [hS] at e; cases e
      | some sd =>
        rw [hS] at e
        obtain ⟨sh0, d0⟩ := sd
        have hm : (⟨sh0, v0, d0⟩ : Cl) ∈ cl S σ := (cl_get hS ev).mem_iff.mpr (by simp)
        obtain ⟨f, h⟩ := o.1.mem (t := ⟨sh0, v0, d0⟩) (List.mem_append_right _ (List.mem_append_left _ hm))
        exact h.path e pv
theorem RT.tyv {N : Addr → Prop} {H : Hp} {sh v d fp T} (h : RT G N H sh v d fp) (w : shOk sh = true) (e : tyM d = some T) : tyV G.K T v H := by
  unfold tyM at e
  split at e
  · cases e
    cases h with
    | no => cases w
    | adr => cases w
    | fz h => cases h; rfl
  · cases e
    cases h with
    | no => cases w
    | adr => cases w
    | lst h r e => exact .inl ⟨rfl, _, .inl (.inl h)⟩
    | fz h =>
      obtain ⟨a, vs, rfl, s, _⟩ := RX.lst_at (.fz h)
      exact .inl ⟨rfl, _, s⟩
  · cases e
theorem tem_recv {T : String} {m : M Rv} {σ : Sg} {H : Hp} {Q : VK} (h : TEm G W q (mRecv T m) σ H Q) : TEm G W q m σ H fun x H1 => tyV G.K T x H1 ∧ Q x H1 := by
  obtain ⟨S, T', r, S', ag, ow, e, k⟩ := h
  unfold mRecv at e
  split at e
  · cases e
  · rename_i e1
    cases e
    exact ⟨S, T', _, _, ag, ow, e1, k⟩
  · rename_i rv S1 e1
    split at e
    · rename_i sh d e2
      split at e
      · rename_i c
        cases e
        refine ⟨S, T', _, _, ag, ow, e1, fun v H' a1 a2 a3 a4 => ⟨?_, k v H' a1 a2 a3 a4⟩⟩
        obtain ⟨O, o⟩ := a2
        obtain ⟨f, rt⟩ := see_rt a1 o a3 e2
        exact rt.tyv c.1 c.2
      · cases e
    · cases e
/-- what a method's rule asks, from receiver and arguments in a row -/
theorem tem_meth {T : String} {m : M Rv} {ms : List (Bool × M Rv)} {σ : Sg} {H : Hp} {r : V → List V → Hp → VK → Prop} {Q : VK} (h : TAm G W (((q0, mRecv T m) :: ms).all (·.1)) (mArgs ((q0, mRecv T m) :: ms)) σ H fun vs H2 => ∃ x xs, vs = x :: xs ∧ r x xs H2 Q) :
    tBM G.K T r (TEm G W q0 m) (TAm G W (ms.all (·.1)) (mArgs ms)) σ H Q := by
  have h1 := tem_recv (tam_cons h)
  refine tem_mono h1 fun x H1 ⟨ty, h2⟩ => ⟨ty, ?_⟩
  refine tam_mono h2 fun xs H2 ⟨x', xs', e, h3⟩ => ?_
  cases e
  exact h3
theorem tem_meth0 {T : String} {m : M Rv} {σ : Sg} {H : Hp} {r : V → List V → Hp → VK → Prop} {Q : VK} (h : TAm G W (([(q0, mRecv T m)] : List (Bool × M Rv)).all (·.1)) (mArgs [(q0, mRecv T m)]) σ H fun vs H2 => ∃ x xs, vs = x :: xs ∧ r x xs H2 Q) :
    tBM0 G.K T r (TEm G W q0 m) σ H Q := by
  have h1 := tem_recv (tam_cons h)
  refine tem_mono h1 fun x H1 ⟨ty, h2⟩ => ⟨ty, ?_⟩
  obtain ⟨x', xs', e, h3⟩ := tam_nil h2
  cases e
  exact h3
def rRecv (r : V → List V → Hp → VK → Prop) : List V → Hp → VK → Prop := fun vs H Q => ∃ x xs, vs = x :: xs ∧ r x xs H Q
theorem pe_mmeth {T id : String} {name : Str} {o e : Expr} {es : List Expr} {apos cpos : Pos} {r : V → List V → Hp → VK → Prop} {f : List D → Option (Sh × D)} {m : M Rv} {ms : List (Bool × M Rv)} (hK : X.K = G.K) (pa : PlainAttrs T) (slot : PySem.Slot T name id) (hty : typeOf (.builtin id) = pure (.type "method_descriptor")) (hm : MtR X id r) (F : FunOk G (rRecv r) f)
    (ho : PE X o (TEm G W q0 m)) (ha : PA X (e :: es) (TAm G W (ms.all (·.1)) (mArgs ms))) (hbase : attributeBase o name X.env (eval o X.env) = eval o X.env)
    (hfew : ((backTo cpos (starEach (e :: es) X.env)).all (fun x => !x.1) && (backToKw cpos (keywordEach [] X.env)).all (fun x => x.1.isSome)
      && decide ((e :: es).length + ([] : List Keyword).length + (if ([] : List Keyword).isEmpty then 0 else 1) < 30)) = true)
    (hline : (apos.endLine == cpos.line) = true) (hs : starEach (e :: es) X.env = (false, eval e X.env) :: starEach es X.env) (hplain : (backTo cpos (starEach es X.env)).any (·.1) = false) :
    PE X (.Call (.Attribute o name apos) (e :: es) [] cpos) (TEm G W (((q0, mRecv T m) :: ms).all (·.1)) (mFun f (mArgs ((q0, mRecv T m) :: ms)))) := by
  refine (pe_bm pa slot hty hm ho ha hbase hfew hline hs hplain).imp fun σ H Q h => ?_
  rw [hK]
  exact tem_meth (tem_fun F h)
theorem pe_mmeth0 {T id : String} {name : Str} {o : Expr} {apos cpos : Pos} {r : V → List V → Hp → VK → Prop} {f : List D → Option (Sh × D)} {m : M Rv} (hK : X.K = G.K) (pa : PlainAttrs T) (slot : PySem.Slot T name id) (hty : typeOf (.builtin id) = pure (.type "method_descriptor")) (hm : MtR X id r) (F : FunOk G (rRecv r) f)
    (ho : PE X o (TEm G W q0 m)) (hbase : attributeBase o name X.env (eval o X.env) = eval o X.env) (hline : (apos.endLine == cpos.line) = true) :
    PE X (.Call (.Attribute o name apos) [] [] cpos) (TEm G W (([(q0, mRecv T m)] : List (Bool × M Rv)).all (·.1)) (mFun f (mArgs [(q0, mRecv T m)]))) := by
  refine (pe_bm0 pa slot hty hm ho hbase hline).imp fun σ H Q h => ?_
  rw [hK]
  exact tem_meth0 (tem_fun F h)
theorem tem_append {as : M (List Rv)} {σ : Sg} {H : Hp} {Q : VK} (h : TEm G W false (mAppend as) σ H Q) : TAm G W q as σ H fun vs H2 => ∃ x xs, vs = x :: xs ∧ rAppend x xs H2 Q := by
  obtain ⟨S, T, r, S', ag, ow, e, k⟩ := h
  unfold mAppend at e
  split at e
  · cases e
  · rename_i e1
    cases e
    exact ⟨S, T, _, _, ag, ow, e1, k⟩
  · rename_i i sh d S1 e1
    split at e
    · rename_i c ds hS
      split at e
      · rename_i hc
        cases e
        refine ⟨S, T, _, _, ag, ow, e1, fun vs H1 a1 a2 a3 _ => ?_⟩
        cases vs with
        | nil => exact a3.elim
        | cons v vs => cases vs with
          | nil => exact a3.2.elim
          | cons w vs => cases vs with
            | cons => exact a3.2.2.elim
            | nil =>
              obtain ⟨v0, ev, pv⟩ := a3.1
              have pv : v = v0 := pv
              subst pv
              have o1 : Own G H1 (⟨sh, w, d⟩ :: (cl S1 σ ++ T)) := a2
              have p := (cl_get hS ev).append_right T
              have o2 : Own G H1 (⟨.lst c, v, .lst ds⟩ :: ⟨c, w, d⟩ :: (cl (S1.set i none) σ ++ T)) := ((o1.fit hc.1).perm (p.cons _)).perm (List.Perm.swap _ _ _)
              have : ∃ a, v = .ref a := by
                obtain ⟨O, o⟩ := o2
                obtain ⟨f, rt⟩ := o.1.mem (t := ⟨.lst c, v, .lst ds⟩) (by simp)
                cases rt
                exact ⟨_, rfl⟩
              obtain ⟨a, rfl⟩ := this
              obtain ⟨vs, ha, hl, o3⟩ := o2.append
              refine ⟨.ref a, [w], rfl, a, vs, w, rfl, rfl, ha, by rw [hl]; exact hc.2, ?_⟩
              refine k .non _ (a1.set ev) (Own.nonC (o3.perm ?_)) trivial fun hq => by cases hq
              exact ((cl_set a1.length ev).append_right T).symm
      · cases e
    · cases e
  · cases e
theorem mt_appendR : MtR X "list.append" rAppend := mt_append
theorem pe_mappend {o e : Expr} {apos cpos : Pos} {m : M Rv} {ms : List (Bool × M Rv)} (hK : X.K = G.K) (ho : PE X o (TEm G W q0 m)) (ha : PA X [e] (TAm G W (ms.all (·.1)) (mArgs ms))) (hbase : attributeBase o "append" X.env (eval o X.env) = eval o X.env)
    (hfew : ((backTo cpos (starEach [e] X.env)).all (fun x => !x.1) && (backToKw cpos (keywordEach [] X.env)).all (fun x => x.1.isSome)
      && decide (([e] : List Expr).length + ([] : List Keyword).length + (if ([] : List Keyword).isEmpty then 0 else 1) < 30)) = true)
    (hline : (apos.endLine == cpos.line) = true) (hs : starEach [e] X.env = (false, eval e X.env) :: starEach [] X.env) (hplain : (backTo cpos (starEach [] X.env)).any (·.1) = false) :
    PE X (.Call (.Attribute o "append" apos) [e] [] cpos) (TEm G W false (mAppend (mArgs ((q0, mRecv "list" m) :: ms)))) := by
  refine (pe_bm PySem.F.plainAttrs_list PySem.F.slot_list_append PySem.F.type_list_append mt_appendR ho ha hbase hfew hline hs hplain).imp fun σ H Q h => ?_
  rw [hK]
  exact tem_meth (tem_append h)
/-- the first place of an equal one -/
def findB (y : D) : List D → Option Nat
  | [] => none
  | x :: xs => match eqB x y with
    | some true => some 0
    | some false => (findB y xs).map (· + 1)
    | none => none
def shp2 (x y : D) : Bool := match x.py, y.py with | some p, some p' => SeqAt.shaped p && SeqAt.shaped p' | _, _ => false
def indexF : D → D → Option (Sh × D)
  | .lst xs, y => if shp2 (.lst xs) y = true then (findB y xs).map fun j => (.fz, .int (j : Nat)) else none
  | _, _ => none
theorem findB_at {y : D} {p' : PyData} (hy : y.py = some p') : ∀ {xs : List D} {j ps}, findB y xs = some j → D.pys xs = some ps → ∃ z, ps[j]? = some z ∧ PyData.eqv z p' = true ∧ ∀ (m : Nat) z', m < j → ps[m]? = some z' → PyData.eqv z' p' = false
  | [], j, ps, h, _ => by cases h
  | x :: xs, j, ps, h, hp => by
    unfold D.pys at hp
    split at hp
    · rename_i z zs e1 e2
      cases hp
      unfold findB at h
      have hb : ∀ b, eqB x y = some b → PyData.eqv z p' = b := fun b hb => by
        unfold eqB at hb
        rw [e1, hy] at hb
        simp only at hb
        split at hb
        · cases hb; rfl
        · cases hb
      split at h
      · rename_i e3
        cases h
        exact ⟨z, rfl, hb _ e3, fun m z' hm => by omega⟩
      · rename_i e3
        cases e4 : findB y xs with
        | none => rw [e4] at h; cases h
        | some j' =>
          rw [e4] at h
          cases h
          obtain ⟨z2, h1, h2, h3⟩ := findB_at hy e4 e2
          refine ⟨z2, by simpa using h1, h2, fun m z' hm hz => ?_⟩
          cases m with
          | zero => simp at hz; subst hz; exact hb _ e3
          | succ m => exact h3 m z' (Nat.lt_of_succ_lt_succ hm) (by simpa using hz)
      · cases h
    · cases hp
theorem fun_index : FunOk G (rRecv (rIndexD G.K)) (on2 indexF) := FunOk.two fun H L O v w d0 d1 sh d Q o rx ry e k => by
  unfold indexF at e
  split at e
  · rename_i xs
    split at e
    · rename_i c
      cases ej : findB d1 xs with
      | none => rw [ej] at e; cases e
      | some j =>
        rw [ej] at e
        cases e
        unfold shp2 at c
        split at c
        · rename_i p p' e1 e2
          rw [Bool.and_eq_true] at c
          have e3 := e1
          unfold D.py at e3
          split at e3
          · rename_i ps eps
            cases e3
            obtain ⟨z, h1, h2, h3⟩ := findB_at e2 ej eps
            obtain ⟨a, vs, rfl, t, r⟩ := rx.lst_at
            exact ⟨.ref a, [w], rfl, a, w, p', ps, j, z, rfl, rfl, rx.dp e1, ry.dp e2, c.1, c.2, h1, h2, h3, k _ H (Same.refl H) ⟨O, o.cons (.int _)⟩⟩
          · cases e3
        · cases c
    · cases e
  · cases e
end
end Dt

/-! The written part's own tuples; the ends. -/
namespace Dt
open PySem PySem.Spec PyProof.Rows L2
section
variable {X : Cx} {G : Gm} {W : WX} {B : Bw} {q q0 q1 q2 : Bool}
/-- a global name of the text whose value is known -/
theorem pe_mglob {x : Str} {v : V} {u : Value} {d : D} {pos : Pos} (hg : Gl X x) (hm : X.mg x = some u) (r : RelV v u) (hc : ∀ (H : Hp) (N : Addr → Prop), RF G N H v d) (hd : (x == ("__debug__" : Str)) = false) : PE X (.Name x pos) (TEm G W true (mCon d)) :=
  (pe_glob hg hm r hd).imp fun _ _ _ h => con_ok hc h
theorem takes_fn {P : Program} {w : World} {K : PySem.W.Frag} {mg : Str → Option Value} {base : Heap} {N : List Str} {qual : Str} {scope : Scope} {f : Addr} {cd : Value} {A : Around} {outer : List Env} {s : Shared} {H : Hp} {E : XK} :
    L2.Takes (cxOf (L2.CX P w) P w K mg base N qual scope f cd A outer s H E) (fun cv od _ H' => E cv od H') := L2.takes_of rfl rfl rfl rfl
/-- the first place of a text -/
def findS (z : List Nat) : List (List Nat) → Option Nat
  | [] => none
  | y :: ys => if y = z then some 0 else (findS z ys).map (· + 1)
def conIndexF (ys : List (List Nat)) : D → Option (Sh × D)
  | .str z => (findS z ys).map fun j => (.fz, .int (j : Nat))
  | _ => none
theorem findS_at {z : List Nat} : ∀ {ys : List (List Nat)} {j}, findS z ys = some j → ys[j]? = some z ∧ ∀ m, m < j → ys[m]? ≠ some z
  | [], j, h => by cases h
  | y :: ys, j, h => by
    unfold findS at h
    split at h
    · rename_i e; cases h; exact ⟨by rw [e]; rfl, fun m hm => by omega⟩
    · rename_i e
      cases e4 : findS z ys with
      | none => rw [e4] at h; cases h
      | some j' =>
        rw [e4] at h; cases h
        obtain ⟨h1, h2⟩ := findS_at e4
        refine ⟨by simpa using h1, fun m hm => ?_⟩
        cases m with
        | zero => intro e'; exact e (by simpa using e')
        | succ m => intro e'; exact h2 m (Nat.lt_of_succ_lt_succ hm) (by simpa using e')
theorem fun_conIndex {a : Addr} {ys : List Str} (kt : KTup G.K a (ys.map V.str)) : FunOk G (fun xs H Q => ∃ p, ∃ zs : List Str, ∃ z j, V.ref a = .ref p ∧ xs = [.str z] ∧ SqT G.K H p (zs.map V.str) ∧ zs[j]? = some z ∧ (∀ m, m < j → zs[m]? ≠ some z) ∧ Q (.int (j : Nat)) H) (on1 (conIndexF (ys.map fun s => s.cps.toList))) := FunOk.one fun H L O v d0 sh d Q o rx e k => by
  unfold conIndexF at e
  split at e
  · rename_i z
    cases ej : findS z (ys.map fun s => s.cps.toList) with
    | none => rw [ej] at e; cases e
    | some j =>
      rw [ej] at e; cases e
      obtain ⟨h1, h2⟩ := findS_at ej
      have hi : ∀ {y : Str}, y.cps.toList = z ↔ y = ⟨z.toArray⟩ := fun {y} => ⟨fun e => by cases y; subst e; simp, fun e => by rw [e]⟩
      refine ⟨a, ys, ⟨z.toArray⟩, j, rfl, by rw [rx.str_at], .inr kt, ?_, fun m hm e => ?_, k _ H (Same.refl H) ⟨O, o.cons (.int _)⟩⟩
      · rw [List.getElem?_map] at h1
        cases hj : ys[j]? with
        | none => rw [hj] at h1; cases h1
        | some y => rw [hj] at h1; simp only [Option.map_some, Option.some.injEq] at h1; rw [hi.mp h1]
      · refine h2 m hm ?_
        rw [List.getElem?_map, e]
        rfl
  · cases e
theorem pe_mconIndex {x : Str} {a : Addr} {ys : List Str} {p0 apos cpos : Pos} {e : Expr} {m : M Rv} (hK : X.K = G.K) (hg : Gl X x) (hm : X.mg x = some (.ref a)) (kt : KTup G.K a (ys.map V.str)) (kd : ∃ o, G.K.lookup a = some o ∧ o.cls = .type "tuple" ∧ o.dict = none) (hd : (x == ("__debug__" : Str)) = false) (ha : PE X e (TEm G W q m))
    (hbase : attributeBase (.Name x p0) "index" X.env (eval (.Name x p0) X.env) = eval (.Name x p0) X.env)
    (hfew : ((backTo cpos (starEach [e] X.env)).all (fun x => !x.1) && (backToKw cpos (keywordEach [] X.env)).all (fun x => x.1.isSome)
      && decide (([e] : List Expr).length + ([] : List Keyword).length + (if ([] : List Keyword).isEmpty then 0 else 1) < 30)) = true)
    (hline : (apos.endLine == cpos.line) = true) (hs : starEach [e] X.env = (false, eval e X.env) :: starEach [] X.env) (hplain : (backTo cpos (starEach [] X.env)).any (·.1) = false) :
    PE X (.Call (.Attribute (.Name x p0) "index" apos) [e] [] cpos) (TEm G W (([(q, m)] : List (Bool × M Rv)).all (·.1)) (mFun (on1 (conIndexF (ys.map fun s => s.cps.toList))) (mArgs [(q, m)]))) := by
  refine (pe_bm PySem.F.plainAttrs_tuple PySem.F.slot_tuple_index PySem.F.type_tuple_index mt_tup_index (pe_glob (v := .ref a) hg hm rfl hd) (pa_mcons ha pa_mnil hs) hbase hfew hline hs hplain).imp fun σ H Q h => ?_
  obtain ⟨o, h1, h2, h3⟩ := kd
  refine ⟨.inr (.inl ⟨rfl, o, by rw [hK]; exact h1, h2, h3⟩), ?_⟩
  rw [hK]
  exact tem_fun (fun_conIndex kt) h
theorem takes_0 {X : Cx} : L2.Takes X (fun _ _ _ _ => False) := fun _ _ ⟨_, _, _, _, _, _, _, _, _, _, _, _, _, _, _, _, w⟩ => w.elim
end
/-- a def of p parameters, n names -/
def fnP (p n : Nat) (B : Bw) (b : MS) : Fs := fun as => if as.length = p then fnS n B b as else none
theorem fnP_len {p n : Nat} {B : Bw} {b : MS} : (fnP p n B b).len := fun as r xs h => by
  unfold fnP at h
  split at h
  · exact fnS_len _ _ _ h
  · cases h
theorem fn_p {P : Program} {w : World} {K : PySem.W.Frag} {mg : Str → Option Value} {base : Heap} {G : Gm} {x qual : Str} {st : Stmt} {f : Addr} {fd : FuncData} {N ps : List Str} {k p n : Nat} {B : Bw} {b : MS} (F : Fun K x qual st f fd) (S : FnScope N ps (defScope st)) (hp : ps.length = p) (hn : N.length = n)
    (hbody : ∀ (cdv : Value) (A : Around) (outer : List Env) (s : Shared) (H : Hp) (E : XK), Room k (A.deeper (envOfC qual (defScope st) s.heap.objs.size f cdv)) →
      PSs (cxOf (L2.CX P w) P w K mg base N qual (defScope st) f cdv A outer s H E) (defBody st) (TSm G (fun cv od _ H' => E cv od H') B b)) :
    FnOk P w K mg base (L2.CX P w) (k + 1) f fd ps (spF G (fnP p n B b)) := by
  refine (fn_m F S hn hbody).imp fun vs H Q E h => ?_
  obtain ⟨as, T, r, xs, hl, o, e, hx, q⟩ := h
  unfold fnP at e
  split at e
  · rename_i c
    exact ⟨by rw [hp, ← hl, c], as, T, r, xs, hl, o, e, hx, q⟩
  · cases e
/-- the script as the law's argument -/
theorem sp_script {G : Gm} {fs : Fs} {H : Hp} {a : Addr} {ns : List Int} (hS : SqL G.K H a (ns.map V.int)) (h : ∃ xs, fs [(.fz, .lst (ns.map D.int))] = some (.ok (.fz, .bl true), xs)) (hf : fs.len) :
    spF G fs [.ref a] H (fun v _ => v = .bl true) fun _ _ _ => False := by
  obtain ⟨xs, h⟩ := h
  have hr : ∀ ns : List Int, RFs G (fun b => b ∉ ([] : List Addr)) H (ns.map V.int) (ns.map D.int) := fun ns => by
    induction ns with
    | nil => exact .nil
    | cons i ns ih => exact .cons (.int i) ih
  refine ⟨[(.fz, .lst (ns.map D.int))], [], .ok (.fz, .bl true), xs, rfl, ⟨[], .cons (t := ⟨.fz, .ref a, .lst (ns.map D.int)⟩) (f1 := []) (.fz (.lst ?_ (hr ns))) .nil, List.nodup_nil⟩, h, hf _ _ _ h, fun v H' o => ?_⟩
  · rcases hS with r | r
    · exact .inl ⟨r, by simp⟩
    · exact .inr r
  · obtain ⟨O, o⟩ := o
    cases o.head.1
    rfl
end Dt

/-! The rules in short, as the printer writes them. -/
namespace Dt
open PySem PySem.Spec PyProof.Rows L2
section
variable {X : Cx} {G : Gm} {W : WX} {B : Bw} {q q0 q1 q2 : Bool} {a b e : Expr} {ma mb m : M Rv} {pos p : Pos}

theorem ir (i : Nat) {x : Str} (hN : X.N[i]? = some x := by rfl) (hv : Vis X.env.scope x := by first | exact Or.inl rfl | exact Or.inr (Or.inl rfl) | exact Or.inr (Or.inr rfl)) (hd : (x == ("__debug__" : Str)) = false := by decide) (hcd : (x == ("__classdict__" : Str)) = false := by decide) : PE X (.Name x pos) (TEm G W true (mRef i)) := pe_mref hN hv hd hcd
theorem iz (i : Nat) {x : Str} (hN : X.N[i]? = some x := by rfl) (hv : Vis X.env.scope x := by first | exact Or.inl rfl | exact Or.inr (Or.inl rfl) | exact Or.inr (Or.inr rfl)) (hd : (x == ("__debug__" : Str)) = false := by decide) (hcd : (x == ("__classdict__" : Str)) = false := by decide) : PE X (.Name x pos) (TEm G W false (mFrz i)) := pe_mfrz hN hv hd hcd
theorem iv (i : Nat) {x : Str} (hN : X.N[i]? = some x := by rfl) (hv : Vis X.env.scope x := by first | exact Or.inl rfl | exact Or.inr (Or.inl rfl) | exact Or.inr (Or.inr rfl)) (hd : (x == ("__debug__" : Str)) = false := by decide) (hcd : (x == ("__classdict__" : Str)) = false := by decide) : PE X (.Name x pos) (TEm G W true (mVar i)) := pe_mvar hN hv hd hcd
theorem im (i : Nat) {x : Str} (hN : X.N[i]? = some x := by rfl) (hv : Vis X.env.scope x := by first | exact Or.inl rfl | exact Or.inr (Or.inl rfl) | exact Or.inr (Or.inr rfl)) (hd : (x == ("__debug__" : Str)) = false := by decide) (hcd : (x == ("__classdict__" : Str)) = false := by decide) : PE X (.Name x pos) (TEm G W false (mMove i)) := pe_mmove hN hv hd hcd
theorem o_add (hK : X.K = G.K) (ha : PE X a (TEm G W q1 ma)) (hb : PE X b (TEm G W q2 mb)) : PE X (.BinOp a .Add b pos) (TEm G W (q1 && q2) (mOp2 addF q1 ma q2 mb)) := pe_mop (op_addD) (hK ▸ fun_add) ha hb
theorem o_sub (ha : PE X a (TEm G W q1 ma)) (hb : PE X b (TEm G W q2 mb)) : PE X (.BinOp a .Sub b pos) (TEm G W (q1 && q2) (mOp2 subF q1 ma q2 mb)) := pe_mop op_sub fun_sub ha hb
theorem o_mul (ha : PE X a (TEm G W q1 ma)) (hb : PE X b (TEm G W q2 mb)) : PE X (.BinOp a .Mult b pos) (TEm G W (q1 && q2) (mOp2 mulF q1 ma q2 mb)) := pe_mop op_mul fun_mul ha hb
theorem o_div (ha : PE X a (TEm G W q1 ma)) (hb : PE X b (TEm G W q2 mb)) : PE X (.BinOp a .FloorDiv b pos) (TEm G W (q1 && q2) (mOp2 divF q1 ma q2 mb)) := pe_mop op_fdiv fun_div ha hb
theorem o_mod (ha : PE X a (TEm G W q1 ma)) (hb : PE X b (TEm G W q2 mb)) : PE X (.BinOp a .Mod b pos) (TEm G W (q1 && q2) (mOp2 modF q1 ma q2 mb)) := pe_mop op_mod fun_mod ha hb
theorem o_pow (ha : PE X a (TEm G W q1 ma)) (hb : PE X b (TEm G W q2 mb)) : PE X (.BinOp a .Pow b pos) (TEm G W (q1 && q2) (mOp2 powF q1 ma q2 mb)) := pe_mop op_pow fun_pow ha hb
theorem c_eq (hK : X.K = G.K) (hu : X.A.units + 64 < cLine) (ha : PE X a (TEm G W q1 ma)) (hb : PE X b (TEm G W q2 mb)) (hm : behindInMarks (.Eq) b = false) : PE X (.Compare a [.Eq] [b] pos) (TEm G W (q1 && q2) (mOp2 eqF q1 ma q2 mb)) := pe_mcmp (op_eqD hu) (hK ▸ fun_eq) ha hb hm
theorem t_eq (hK : X.K = G.K) (hu : X.A.units + 64 < cLine) (ha : PE X a (TEm G W q1 ma)) (hb : PE X b (TEm G W q2 mb)) (hm : behindInMarks (.Eq) b = false) : PT X (.Compare a [.Eq] [b] pos) (TTm G W (q1 && q2) (mBool (mOp2 eqF q1 ma q2 mb))) := pt_mcmp (op_eqD hu) (hK ▸ fun_eq) ha hb hm
theorem c_ne (hK : X.K = G.K) (hu : X.A.units + 64 < cLine) (ha : PE X a (TEm G W q1 ma)) (hb : PE X b (TEm G W q2 mb)) (hm : behindInMarks (.NotEq) b = false) : PE X (.Compare a [.NotEq] [b] pos) (TEm G W (q1 && q2) (mOp2 neF q1 ma q2 mb)) := pe_mcmp (op_neD hu) (hK ▸ fun_ne) ha hb hm
theorem t_ne (hK : X.K = G.K) (hu : X.A.units + 64 < cLine) (ha : PE X a (TEm G W q1 ma)) (hb : PE X b (TEm G W q2 mb)) (hm : behindInMarks (.NotEq) b = false) : PT X (.Compare a [.NotEq] [b] pos) (TTm G W (q1 && q2) (mBool (mOp2 neF q1 ma q2 mb))) := pt_mcmp (op_neD hu) (hK ▸ fun_ne) ha hb hm
theorem c_lt (hK : X.K = G.K) (hu : X.A.units + 64 < cLine) (ha : PE X a (TEm G W q1 ma)) (hb : PE X b (TEm G W q2 mb)) (hm : behindInMarks (.Lt) b = false) : PE X (.Compare a [.Lt] [b] pos) (TEm G W (q1 && q2) (mOp2 ltF q1 ma q2 mb)) := pe_mcmp (op_ltA hu) (hK ▸ fun_lt) ha hb hm
theorem t_lt (hK : X.K = G.K) (hu : X.A.units + 64 < cLine) (ha : PE X a (TEm G W q1 ma)) (hb : PE X b (TEm G W q2 mb)) (hm : behindInMarks (.Lt) b = false) : PT X (.Compare a [.Lt] [b] pos) (TTm G W (q1 && q2) (mBool (mOp2 ltF q1 ma q2 mb))) := pt_mcmp (op_ltA hu) (hK ▸ fun_lt) ha hb hm
theorem c_gt (ha : PE X a (TEm G W q1 ma)) (hb : PE X b (TEm G W q2 mb)) (hm : behindInMarks (.Gt) b = false) : PE X (.Compare a [.Gt] [b] pos) (TEm G W (q1 && q2) (mOp2 gtF q1 ma q2 mb)) := pe_mcmp op_gt fun_gt ha hb hm
theorem t_gt (ha : PE X a (TEm G W q1 ma)) (hb : PE X b (TEm G W q2 mb)) (hm : behindInMarks (.Gt) b = false) : PT X (.Compare a [.Gt] [b] pos) (TTm G W (q1 && q2) (mBool (mOp2 gtF q1 ma q2 mb))) := pt_mcmp op_gt fun_gt ha hb hm
theorem c_le (ha : PE X a (TEm G W q1 ma)) (hb : PE X b (TEm G W q2 mb)) (hm : behindInMarks (.LtE) b = false) : PE X (.Compare a [.LtE] [b] pos) (TEm G W (q1 && q2) (mOp2 leF q1 ma q2 mb)) := pe_mcmp op_le fun_le ha hb hm
theorem t_le (ha : PE X a (TEm G W q1 ma)) (hb : PE X b (TEm G W q2 mb)) (hm : behindInMarks (.LtE) b = false) : PT X (.Compare a [.LtE] [b] pos) (TTm G W (q1 && q2) (mBool (mOp2 leF q1 ma q2 mb))) := pt_mcmp op_le fun_le ha hb hm
theorem c_ge (ha : PE X a (TEm G W q1 ma)) (hb : PE X b (TEm G W q2 mb)) (hm : behindInMarks (.GtE) b = false) : PE X (.Compare a [.GtE] [b] pos) (TEm G W (q1 && q2) (mOp2 geF q1 ma q2 mb)) := pe_mcmp op_ge fun_ge ha hb hm
theorem t_ge (ha : PE X a (TEm G W q1 ma)) (hb : PE X b (TEm G W q2 mb)) (hm : behindInMarks (.GtE) b = false) : PT X (.Compare a [.GtE] [b] pos) (TTm G W (q1 && q2) (mBool (mOp2 geF q1 ma q2 mb))) := pt_mcmp op_ge fun_ge ha hb hm
theorem o_idx (hK : X.K = G.K) (ha : PE X a (TEm G W q1 ma)) (hb : PE X b (TEm G W q2 mb)) (hs : PlainIx b) : PE X (.Subscript a b pos) (TEm G W (q1 && q2) (mOp2 idxF q1 ma q2 mb)) := (pe_ix ix_seq ha hb hs).imp fun _ _ _ h => tem_op2 (hK ▸ fun_idx) h
theorem f_len {es : List Expr} {as : M (List Rv)} (hK : X.K = G.K) (hg : Gl X "len") (hm : X.mg "len" = none) (ha : PA X (e :: es) (TAm G W q as)) (he : starEach (e :: es) X.env = (false, eval e X.env) :: starEach es X.env) (hpl : (backTo pos (starEach es X.env)).any (·.1) = false) : PE X (.Call (.Name "len" p) (e :: es) [] pos) (TEm G W q (mFun (on1 lenF) as)) :=
  pe_mbi call_lenD (hK ▸ fun_len) hg hm (by decide +kernel) ha (by decide) (by decide) he hpl
theorem f_abs {es : List Expr} {as : M (List Rv)} (hg : Gl X "abs") (hm : X.mg "abs" = none) (ha : PA X (e :: es) (TAm G W q as)) (he : starEach (e :: es) X.env = (false, eval e X.env) :: starEach es X.env) (hpl : (backTo pos (starEach es X.env)).any (·.1) = false) : PE X (.Call (.Name "abs" p) (e :: es) [] pos) (TEm G W q (mFun (on1 absF) as)) :=
  pe_mbi call_abs fun_abs hg hm (by decide +kernel) ha (by decide) (by decide) he hpl
theorem f_int {es : List Expr} {as : M (List Rv)} (hg : Gl X "int") (hm : X.mg "int" = none) (ha : PA X (e :: es) (TAm G W q as)) (he : starEach (e :: es) X.env = (false, eval e X.env) :: starEach es X.env) (hpl : (backTo pos (starEach es X.env)).any (·.1) = false) : PE X (.Call (.Name "int" p) (e :: es) [] pos) (TEm G W q (mFun (on1 intF) as)) :=
  pe_mty call_int1 fun_int hg hm (by decide +kernel) ha (by decide) (by decide) he hpl
theorem f_min {es : List Expr} {as : M (List Rv)} (hc : X.calm = true) (hg : Gl X "min") (hm : X.mg "min" = none) (ha : PA X (e :: es) (TAm G W q as)) (he : starEach (e :: es) X.env = (false, eval e X.env) :: starEach es X.env) (hpl : (backTo pos (starEach es X.env)).any (·.1) = false) : PE X (.Call (.Name "min" p) (e :: es) [] pos) (TEm G W q (mFun (on2 minF) as)) :=
  pe_mbi (call_min2 hc) fun_min hg hm (by decide +kernel) ha (by decide) (by decide) he hpl
theorem f_max {es : List Expr} {as : M (List Rv)} (hc : X.calm = true) (hg : Gl X "max") (hm : X.mg "max" = none) (ha : PA X (e :: es) (TAm G W q as)) (he : starEach (e :: es) X.env = (false, eval e X.env) :: starEach es X.env) (hpl : (backTo pos (starEach es X.env)).any (·.1) = false) : PE X (.Call (.Name "max" p) (e :: es) [] pos) (TEm G W q (mFun (on2 maxF) as)) :=
  pe_mbi (call_max2 hc) fun_max hg hm (by decide +kernel) ha (by decide) (by decide) he hpl
theorem f_list {es : List Expr} {as : M (List Rv)} (hK : X.K = G.K) (hg : Gl X "list") (hm : X.mg "list" = none) (ha : PA X (e :: es) (TAm G W q as)) (he : starEach (e :: es) X.env = (false, eval e X.env) :: starEach es X.env) (hpl : (backTo pos (starEach es X.env)).any (·.1) = false) : PE X (.Call (.Name "list" p) (e :: es) [] pos) (TEm G W q (mFun (on1 listF) as)) :=
  pe_mty call_list_of (hK ▸ fun_list) hg hm (by decide +kernel) ha (by decide) (by decide) he hpl
theorem f_tuple {es : List Expr} {as : M (List Rv)} (hK : X.K = G.K) (hg : Gl X "tuple") (hm : X.mg "tuple" = none) (ha : PA X (e :: es) (TAm G W q as)) (he : starEach (e :: es) X.env = (false, eval e X.env) :: starEach es X.env) (hpl : (backTo pos (starEach es X.env)).any (·.1) = false) : PE X (.Call (.Name "tuple" p) (e :: es) [] pos) (TEm G W q (mFun (on1 tupF) as)) :=
  pe_mty call_tuple_of (hK ▸ fun_tup) hg hm (by decide +kernel) ha (by decide) (by decide) he hpl
theorem f_sorted {es : List Expr} {as : M (List Rv)} (hK : X.K = G.K) (hu : X.A.units + 64 < cLine) (hg : Gl X "sorted") (hm : X.mg "sorted" = none) (ha : PA X (e :: es) (TAm G W q as)) (he : starEach (e :: es) X.env = (false, eval e X.env) :: starEach es X.env) (hpl : (backTo pos (starEach es X.env)).any (·.1) = false) : PE X (.Call (.Name "sorted" p) (e :: es) [] pos) (TEm G W q (mFun (on1 sortedF) as)) :=
  pe_mbi (call_sortD hu) (hK ▸ fun_sorted) hg hm (by decide +kernel) ha (by decide) (by decide) he hpl
theorem f_isinstance {es : List Expr} {as : M (List Rv)} (hK : X.K = G.K) (hg : Gl X "isinstance") (hm : X.mg "isinstance" = none) (ha : PA X (e :: es) (TAm G W q as)) (he : starEach (e :: es) X.env = (false, eval e X.env) :: starEach es X.env) (hpl : (backTo pos (starEach es X.env)).any (·.1) = false) : PE X (.Call (.Name "isinstance" p) (e :: es) [] pos) (TEm G W q (mFun (on2 isiF) as)) :=
  pe_mbi call_isi (hK ▸ fun_isi) hg hm (by decide +kernel) ha (by decide) (by decide) he hpl
/-- a text's signs -/
def S (s : String) : List Nat := (Str.ofString s).cps.toList
theorem room65 {k : Nat} {A : Around} (r : Room k A) : A.units + 65 < cLine := by have := r.un; omega
theorem pn : PA X [] (TAm G W true (mArgs [])) := pa_mnil
theorem pc {es : List Expr} {ms : List (Bool × M Rv)} (he : PE X e (TEm G W q m)) (hs : PA X es (TAm G W (ms.all (·.1)) (mArgs ms)))
    (hst : starEach (e :: es) X.env = (false, eval e X.env) :: starEach es X.env := by rfl) : PA X (e :: es) (TAm G W (((q, m) :: ms).all (·.1)) (mArgs ((q, m) :: ms))) := pa_mcons he hs hst
theorem tv (h : PE X e (TEm G W q m)) (he : ∀ whole, isTrue e X.env whole = (do let v ← whole; standAt e.pos; holding [v] (truthy v)) := by intro _; rfl) : PT X e (TTm G W q (mBool m)) := pt_mval h he
theorem s_set {i : Nat} {x : Str} {pos' : Pos} (hN : X.N.Nodup) (he : PE X e (TEm G W q m)) (hi : X.N[i]? = some x := by rfl) (hx : Loc X.env.scope x := by first | exact Or.inl rfl | exact Or.inr rfl) (hs : swapsWith e (some (.Name x pos')) pos.line X.env = pure false := by rfl) (hf : X.fn x = true ∨ X.env.scope.names.lookup x = some .local := by first | exact .inl rfl | exact .inr rfl) :
    PS X (.Assign [.Name x pos'] e pos) (TSm G W B (sSet B i m)) := ps_mset hN hi hx he hs hf
theorem s_expr (he : PE X e (TEm G W q m)) (hs : swapsWith e none pos.line X.env = pure false := by rfl) : PS X (.Expr e pos) (TSm G W B (sExpr m)) := ps_mexpr he hs
theorem g_nm {i : Nat} {x : Str} (hN : X.N.Nodup) (hi : X.N[i]? = some x := by rfl) (hx : Loc X.env.scope x := by first | exact Or.inl rfl | exact Or.inr rfl) (hf : X.fn x = true ∨ X.env.scope.names.lookup x = some .local := by first | exact .inl rfl | exact .inr rfl) : PG X (.Name x pos) (TGm G B (.nm i)) := pg_mname hN hi hx hf
theorem s_for {tg iter : Expr} {body : List Stmt} {t : Tg} {mi : M (List D)} {mb : MS} (hp : PassesOwn (model X.prog X.w) X.A X.env X.xe) (hc : X.calm = true) (hi : PI X tg iter (TIm G W mi)) (hg : PG X tg (TGm G B t)) (hb : PSs X body (TSm G W B mb))
    (hs : ∀ x, foldedSetIterable iter X.env x = pure x := by intro _; rfl) : PS X (.For tg iter body [] pos) (TSm G W B (sFor B t mi mb)) := ps_mfor hp hc hi hg hb hs
theorem i_rng1 {tg : Expr} (hg : Gl X "range") (hm : X.mg "range" = none) (ha : PE X a (TEm G W q m)) (hs : starEach [a] X.env = [(false, eval a X.env)] := by rfl) : PI X tg (.Call (.Name "range" p) [a] [] pos) (TIm G W (iRng (mArgs [(q, m)]))) := pi_mrng1 hg hm ha hs
theorem i_rng2 {tg : Expr} {m' : M Rv} (hg : Gl X "range") (hm : X.mg "range" = none) (ha : PE X a (TEm G W q1 m)) (hb : PE X b (TEm G W q2 m')) (hs : starEach [a, b] X.env = [(false, eval a X.env), (false, eval b X.env)] := by rfl) (hs2 : starEach [b] X.env = [(false, eval b X.env)] := by rfl) :
    PI X tg (.Call (.Name "range" p) [a, b] [] pos) (TIm G W (iRng (mArgs [(q1, m), (q2, m')]))) := pi_mrng2 hg hm ha hb hs hs2
theorem f_call {k : Nat} {f : Addr} {fd : FuncData} {ps : List Str} {fs : Fs} {x : Str} {es : List Expr} {as : M (List Rv)} (hf : fs.len) (hg : Gl X x) (F : FnOk X.prog X.w X.K X.mg X.base (L2.CX X.prog X.w) k f fd ps (spF G fs)) (hr : Room k X.A) (hm : X.mg x = some (.ref f)) (hk : PySem.W.keepIn X.K (.ref f) = true)
    (hb : Binds X.K fd ps []) (tk : L2.Takes X W) (ha : PA X (e :: es) (TAm G W q as)) (hdb : (x == ("__debug__" : Str)) = false := by decide) (he : starEach (e :: es) X.env = (false, eval e X.env) :: starEach es X.env := by rfl) (hpl : (backTo pos (starEach es X.env)).any (·.1) = false := by rfl) :
    PE X (.Call (.Name x p) (e :: es) [] pos) (TEm G W false (mCall fs as)) := pe_mcall hf F hr hg hm hk hb tk ha hdb he hpl
theorem m_append {o : Expr} {apos : Pos} {ms : List (Bool × M Rv)} (hK : X.K = G.K) (ho : PE X o (TEm G W q0 m)) (ha : PA X [e] (TAm G W (ms.all (·.1)) (mArgs ms))) (hbase : attributeBase o "append" X.env (eval o X.env) = eval o X.env := by rfl)
    (hfew : ((backTo pos (starEach [e] X.env)).all (fun x => !x.1) && (backToKw pos (keywordEach [] X.env)).all (fun x => x.1.isSome)
      && decide (([e] : List Expr).length + ([] : List Keyword).length + (if ([] : List Keyword).isEmpty then 0 else 1) < 30)) = true := by rfl)
    (hline : (apos.endLine == pos.line) = true := by rfl) (hs : starEach [e] X.env = (false, eval e X.env) :: starEach [] X.env := by rfl) (hplain : (backTo pos (starEach [] X.env)).any (·.1) = false := by rfl) :
    PE X (.Call (.Attribute o "append" apos) [e] [] pos) (TEm G W false (mAppend (mArgs ((q0, mRecv "list" m) :: ms)))) := pe_mappend hK ho ha hbase hfew hline hs hplain
theorem m_index {o : Expr} {apos : Pos} {ms : List (Bool × M Rv)} (hK : X.K = G.K) (hu : X.A.units + 65 < cLine) (ho : PE X o (TEm G W q0 m)) (ha : PA X [e] (TAm G W (ms.all (·.1)) (mArgs ms))) (hbase : attributeBase o "index" X.env (eval o X.env) = eval o X.env := by rfl)
    (hfew : ((backTo pos (starEach [e] X.env)).all (fun x => !x.1) && (backToKw pos (keywordEach [] X.env)).all (fun x => x.1.isSome)
      && decide (([e] : List Expr).length + ([] : List Keyword).length + (if ([] : List Keyword).isEmpty then 0 else 1) < 30)) = true := by rfl)
    (hline : (apos.endLine == pos.line) = true := by rfl) (hs : starEach [e] X.env = (false, eval e X.env) :: starEach [] X.env := by rfl) (hplain : (backTo pos (starEach [] X.env)).any (·.1) = false := by rfl) :
    PE X (.Call (.Attribute o "index" apos) [e] [] pos) (TEm G W (((q0, mRecv "list" m) :: ms).all (·.1)) (mFun (on2 indexF) (mArgs ((q0, mRecv "list" m) :: ms)))) :=
  pe_mmeth hK PySem.F.plainAttrs_list PySem.F.slot_list_index PySem.F.type_list_index (mt_indexD hu) (hK ▸ fun_index) ho ha hbase hfew hline hs hplain
theorem m_conIndex {x : Str} {a : Addr} {ys : List Str} {p0 apos : Pos} (hK : X.K = G.K) (hg : Gl X x) (hm : X.mg x = some (.ref a)) (kt : KTup G.K a (ys.map V.str)) (kd : ∃ o, G.K.lookup a = some o ∧ o.cls = .type "tuple" ∧ o.dict = none) (ha : PE X e (TEm G W q m)) (hd : (x == ("__debug__" : Str)) = false := by decide) 
    (hbase : attributeBase (.Name x p0) "index" X.env (eval (.Name x p0) X.env) = eval (.Name x p0) X.env := by rfl)
    (hfew : ((backTo pos (starEach [e] X.env)).all (fun x => !x.1) && (backToKw pos (keywordEach [] X.env)).all (fun x => x.1.isSome)
      && decide (([e] : List Expr).length + ([] : List Keyword).length + (if ([] : List Keyword).isEmpty then 0 else 1) < 30)) = true := by rfl)
    (hline : (apos.endLine == pos.line) = true := by rfl) (hs : starEach [e] X.env = (false, eval e X.env) :: starEach [] X.env := by rfl) (hplain : (backTo pos (starEach [] X.env)).any (·.1) = false := by rfl) :
    PE X (.Call (.Attribute (.Name x p0) "index" apos) [e] [] pos) (TEm G W (([(q, m)] : List (Bool × M Rv)).all (·.1)) (mFun (on1 (conIndexF (ys.map fun s => s.cps.toList))) (mArgs [(q, m)]))) :=
  pe_mconIndex hK hg hm kt kd hd ha hbase hfew hline hs hplain
theorem s_lc {i : Nat} {y : Str} {py : Pos} {elt tg iter : Expr} {ifs : List Expr} {scope : Scope} {own : List (Str × Nat)} {vs : List Nat} {spos : Pos} {t : Tg} {mi : M (List D)} {tt : M Bool} {me : M Rv} {c : Sh} (hc : X.calm = true) (hN : X.N.Nodup) 
    (hi : PI X tg iter (TIm G W mi)) (ok : BlkOk X.N X.env.scope scope own)
    (hg : ∀ (s : Shared) (H : Hp) (C : Addr) (cl : List (Str × Addr)) (fp : List Addr), PG (X.blk s H scope (compEnvC scope cl C X.env) fp) tg (TGm G noB t))
    (ht : ∀ (s : Shared) (H : Hp) (C : Addr) (cl : List (Str × Addr)) (fp : List Addr), PTs (X.blk s H scope (compEnvC scope cl C X.env) fp) ifs (TTm G W0 q1 tt))
    (he : ∀ (s : Shared) (H : Hp) (C : Addr) (cl : List (Str × Addr)) (fp : List Addr), PE (X.blk s H scope (compEnvC scope cl C X.env) fp) elt (TEm G W0 q2 me)) (hk : X.env.scope.kind = .function) (hl : (py.line == pos.line) = true) (hany : (scope.names.any fun (n, k) => n == y && (k == .local || k == .cell)) = false) (nd : (own.map (·.2)).Nodup) (hts : ∀ j ∈ t.slots, j ∈ own.map (·.2)) (hvs : own.map (·.2) = vs)
    (hy : X.N[i]? = some y := by rfl) (hyl : X.env.scope.names.lookup y = some .local := by rfl) (hle : (py.line == spos.line) = true := by rfl) (hpp : spos.line = pos.line := by rfl) (hs : ∀ x, foldedSetIterable iter X.env x = pure x := by intro _; rfl) : PS X (.Assign [.Name y py] (.ListComp elt [⟨tg, iter, ifs, 0⟩] scope pos) spos) (TSm G W B (sSet B i (mLc vs t mi tt me c))) :=
  hvs ▸ ps_msetLc hc hN hy hyl (sw_true hk hyl hl hany) hi ok hg ht he hs nd hts
theorem e_lc {elt tg iter : Expr} {ifs : List Expr} {scope : Scope} {own : List (Str × Nat)} {vs : List Nat} {t : Tg} {mi : M (List D)} {tt : M Bool} {me : M Rv} {c : Sh} (hc : X.calm = true) (hN : X.N.Nodup) (hi : PI X tg iter (TIm G W mi)) (ok : BlkOk X.N X.env.scope scope own)
    (hg : ∀ (s : Shared) (H : Hp) (C : Addr) (cl : List (Str × Addr)) (fp : List Addr), PG (X.blk s H scope (compEnvC scope cl C X.env) fp) tg (TGm G noB t))
    (ht : ∀ (s : Shared) (H : Hp) (C : Addr) (cl : List (Str × Addr)) (fp : List Addr), PTs (X.blk s H scope (compEnvC scope cl C X.env) fp) ifs (TTm G W0 q1 tt))
    (he : ∀ (s : Shared) (H : Hp) (C : Addr) (cl : List (Str × Addr)) (fp : List Addr), PE (X.blk s H scope (compEnvC scope cl C X.env) fp) elt (TEm G W0 q2 me)) (nd : (own.map (·.2)).Nodup) (hts : ∀ j ∈ t.slots, j ∈ own.map (·.2)) (hvs : own.map (·.2) = vs) (hs : ∀ x, foldedSetIterable iter X.env x = pure x := by intro _; rfl)
    : PE X (.ListComp elt [⟨tg, iter, ifs, 0⟩] scope pos) (TEm G W false (mLc vs t mi tt me c)) := hvs ▸ pe_mlc hc hN hi ok hg ht he hs nd hts
theorem ifs_0 : PTs X [] (TTm G W true bYes) := pts_mnil
theorem ifs_1 {tt : M Bool} (h : PT X e (TTm G W q tt)) : PTs X [e] (TTm G W q tt) := pts_one h
end
end Dt

/-! The end of a law. -/
namespace Dt
open PySem PySem.W PyProof.Rows L2
theorem law_walk {l : PySem.W.OpenLaw} {n k : Nat} {q : Program} {loose : List Str} {XP : (Str → Option Value) → Heap → Prop} {YP : World → Heap → Prop} {d : DefRec} {K : Params → PySem.W.Frag} {x : Str} (fs : Fs) (cls : Nat → Addr) (fld : Nat → Str)
    (hn : l.most = some n) (hn2 : n ≤ sizeLine) (hdf : d.params.defaults = []) (hr : Room k callerA)
    (hY : ∀ (w : World) (h : Heap), YP w h → (K w.params).In h)
    (F : ∀ (w : World) (mg : Str → Option Value) (fa : Addr) (h : Heap), (K w.params).In h → h.Ns mainGlobals mg → mg d.name = some (.ref fa) →
      ∃ fd : FuncData, (∀ (s : Shared) (u : Value), BindsTo s fd ⟨[u], []⟩ [(x, u)]) ∧
        ∀ base : Heap, (K w.params).In base → base.Ns mainGlobals mg → FnOk l.prog w (K w.params) mg base (L2.CX l.prog w) k fa fd [x] (spF ⟨K w.params, w, cls, fld⟩ fs))
    (hf : fs.len) (h : ∀ ns : List Int, ns.length ≤ n → ∃ xs, fs [(.fz, .lst (ns.map D.int))] = some (.ok (.fz, .bl true), xs)) :
    PySem.W.WalkO q loose XP YP l.row.toRowW d [] (fun f vs => PySem.call f vs) :=
  walk_of (K := K) (CX := fun w => L2.CX l.prog w) (sp := fun w => spF ⟨K w.params, w, cls, fld⟩ fs) hn hn2 hdf hr hY F (fun w H a ns hl _ hS => sp_script hS (h ns hl) hf)
    (fun w H s e s' h => let ⟨_, _, _, _, _, _, _, _, _, _, _, _, h⟩ := h; h)
end Dt

/-! How cores are computed. -/
namespace Dt
open PySem PySem.Spec PyProof.Rows L2

abbrev XP := Exc → List Slot → Prop
/-- what m does from S on: X of an exception, Q of a value -/
def Ev {α : Type} (m : M α) (S : List Slot) (X : XP) (Q : α → List Slot → Prop) : Prop := match m S with
  | none => False
  | some (.error e, S1) => X e S1
  | some (.ok r, S1) => Q r S1
/-- a statement's ends -/
structure Kn where
  ex : XP
  nx : List Slot → Prop
  rt : Sh → D → List Slot → Prop
  bk : List Slot → Prop
  ct : List Slot → Prop
def Kn.at (K : Kn) : Fl → List Slot → Prop
  | .nx => K.nx
  | .rt sh d => K.rt sh d
  | .bk => K.bk
  | .ct => K.ct
def Es (m : MS) (S : List Slot) (K : Kn) : Prop := Ev m S K.ex K.at
def Ef (f : Fs) (as : List (Sh × D)) (X : XP) (Q : Sh → D → List Slot → Prop) : Prop := match f as with
  | none => False
  | some (.error e, xs) => X e xs
  | some (.ok (sh, d), xs) => Q sh d xs
theorem ev_congr {α : Type} {m m' : M α} {S S' : List Slot} {X : XP} {Q : α → List Slot → Prop} (h : m = m') (h' : S = S') : Ev m S X Q = Ev m' S' X Q := by rw [h, h']
theorem es_congr {m m' : MS} {S S' : List Slot} {K : Kn} (h : m = m') (h' : S = S') : Es m S K = Es m' S' K := by rw [h, h']
theorem ef_congr {f : Fs} {as as' : List (Sh × D)} {X : XP} {Q : Sh → D → List Slot → Prop} (h' : as = as') : Ef f as X Q = Ef f as' X Q := by rw [h']
section
variable {α : Type} {m : M α} {S S1 : List Slot} {X X' : XP} {Q Q' : α → List Slot → Prop}
theorem Ev.ok (e : m S = some (.ok r, S1)) : Ev m S X Q ↔ Q r S1 := by unfold Ev; rw [e]
theorem Ev.err {x : Exc} (e : m S = some (.error x, S1)) : Ev m S X Q ↔ X x S1 := by unfold Ev; rw [e]
theorem Ev.no (e : m S = none) : Ev m S X Q ↔ False := by unfold Ev; rw [e]
theorem Ev.mono (h : Ev m S X Q) (iX : ∀ x S1, X x S1 → X' x S1) (i : ∀ r S1, Q r S1 → Q' r S1) : Ev m S X' Q' := by
  unfold Ev at h ⊢
  split at h
  · exact h
  · exact iX _ _ h
  · exact i _ _ h
theorem Ev.monoQ (h : Ev m S X Q) (i : ∀ r S1, Q r S1 → Q' r S1) : Ev m S X Q' := h.mono (fun _ _ h => h) i
theorem Ev.ex (h : Ev m S X Q) : (∃ e S1, m S = some (.error e, S1) ∧ X e S1) ∨ ∃ r S1, m S = some (.ok r, S1) ∧ Q r S1 := by
  unfold Ev at h
  split at h
  · exact h.elim
  · exact .inl ⟨_, _, by assumption, h⟩
  · exact .inr ⟨_, _, by assumption, h⟩
end
def noX : XP := fun _ _ => False
theorem Ef.ex {f : Fs} {as : List (Sh × D)} {X : XP} {Q : Sh → D → List Slot → Prop} (h : Ef f as X Q) : (∃ e xs, f as = some (.error e, xs) ∧ X e xs) ∨ ∃ sh d xs, f as = some (.ok (sh, d), xs) ∧ Q sh d xs := by
  unfold Ef at h
  split at h
  · exact h.elim
  · exact .inl ⟨_, _, by assumption, h⟩
  · exact .inr ⟨_, _, _, by assumption, h⟩
theorem Ef.ok {f : Fs} {as : List (Sh × D)} {Q : Sh → D → List Slot → Prop} (h : Ef f as noX Q) : ∃ sh d xs, f as = some (.ok (sh, d), xs) ∧ Q sh d xs := by
  rcases h.ex with ⟨_, _, _, h⟩ | h
  · exact h.elim
  · exact h
theorem of_ef {f : Fs} {as : List (Sh × D)} {sh : Sh} {d : D} {xs : List Slot} (h : Ef f as noX fun sh' d' xs' => sh' = sh ∧ d' = d ∧ xs' = xs) : f as = some (.ok (sh, d), xs) := by
  obtain ⟨sh', d', xs', e, h1, h2, h3⟩ := h.ok
  rw [e, h1, h2, h3]
theorem ef_ok {f : Fs} {as : List (Sh × D)} {sh : Sh} {d : D} {xs : List Slot} {X : XP} {Q : Sh → D → List Slot → Prop} (e : f as = some (.ok (sh, d), xs)) : Ef f as X Q ↔ Q sh d xs := by
  unfold Ef
  rw [e]
/-- a def's body, run -/
theorem Ef.fn {p n : Nat} {B : Bw} {b : MS} {as : List (Sh × D)} {X : XP} {Q : Sh → D → List Slot → Prop} (hl : as.length = p) (hn : p ≤ n)
    (h : Es b (as.map some ++ List.replicate (n - p) none) ⟨fun e S => S.length = n ∧ X e (keepB B 0 (S.take p)), fun S => S.length = n ∧ Q .fz .non (keepB B 0 (S.take p)), fun sh d S => S.length = n ∧ Q sh d (keepB B 0 (S.take p)), fun _ => False, fun _ => False⟩) : Ef (fnP p n B b) as X Q := by
  unfold Es at h
  unfold Ef fnP fnS
  rw [if_pos hl, if_pos (by omega), hl]
  rcases h.ex with ⟨e, S, h1, h2, h3⟩ | ⟨fl, S, h1, h2⟩
  · rw [h1]; simp only [if_pos h2]; exact h3
  · rw [h1]
    cases fl with
    | nx => obtain ⟨h2, h3⟩ := h2; simp only [if_pos h2]; exact h3
    | rt sh d => obtain ⟨h2, h3⟩ := h2; simp only [if_pos h2]; exact h3
    | bk => exact h2.elim
    | ct => exact h2.elim

/-! statements -/
section
variable {B : Bw} {S : List Slot} {K : Kn} {m : M Rv} {i : Nat} {a b : MS}
@[simp] theorem ev_seq : Es (sSeq a b) S K ↔ Es a S ⟨K.ex, fun S1 => Es b S1 K, K.rt, K.bk, K.ct⟩ := by
  unfold Es Ev sSeq
  cases a S with
  | none => exact Iff.rfl
  | some x =>
    obtain ⟨r, S1⟩ := x
    cases r with
    | error e => exact Iff.rfl
    | ok fl => cases fl <;> exact Iff.rfl
@[simp] theorem ev_pass : Es sPass S K ↔ K.nx S := Iff.rfl
@[simp] theorem ev_brk : Es sBreak S K ↔ K.bk S := Iff.rfl
@[simp] theorem ev_cont : Es sCont S K ↔ K.ct S := Iff.rfl
@[simp] theorem ev_retN : Es sRetN S K ↔ K.rt .fz .non S := Iff.rfl
/-- what is kept: a thing, no place -/
def Tmp (r : Rv) (P : Sh → D → Prop) : Prop := match r with
  | .tmp sh d => P sh d
  | .ref _ _ => False
@[simp] theorem tmp_e {sh : Sh} {d : D} {P : Sh → D → Prop} : Tmp (.tmp sh d) P ↔ P sh d := Iff.rfl
theorem tmp_congr {r r' : Rv} {P : Sh → D → Prop} (h : r = r') : Tmp r P = Tmp r' P := by rw [h]
@[simp] theorem ev_set : Es (sSet B i m) S K ↔ Ev m S K.ex fun r S1 => Tmp r fun sh d => B i = false ∧ i < S1.length ∧ K.nx (S1.set i (some (sh, d))) := by
  unfold Es Ev sSet
  cases m S with
  | none => exact Iff.rfl
  | some x =>
    obtain ⟨r, S1⟩ := x
    cases r with
    | error e => exact Iff.rfl
    | ok rv => cases rv with
      | ref => exact Iff.rfl
      | tmp sh d =>
        by_cases hb : B i = true
        · simp [hb]
        · by_cases hi : i < S1.length
          · simp [hb, hi]; exact Iff.rfl
          · simp [hb, hi]
@[simp] theorem ev_expr : Es (sExpr m) S K ↔ Ev m S K.ex fun _ S1 => K.nx S1 := by
  unfold Es Ev sExpr
  cases m S with
  | none => exact Iff.rfl
  | some x =>
    obtain ⟨r, S1⟩ := x
    cases r <;> exact Iff.rfl
@[simp] theorem ev_ret : Es (sRet m) S K ↔ Ev m S K.ex fun r S1 => Tmp r fun sh d => K.rt sh d S1 := by
  unfold Es Ev sRet
  cases m S with
  | none => exact Iff.rfl
  | some x =>
    obtain ⟨r, S1⟩ := x
    cases r with
    | error e => exact Iff.rfl
    | ok rv => cases rv <;> exact Iff.rfl
@[simp] theorem ev_if {c : M Bool} : Es (sIf c a b) S K ↔ Ev c S K.ex fun t S1 => if t = true then Es a S1 K else Es b S1 K := by
  unfold Es Ev sIf
  cases c S with
  | none => exact Iff.rfl
  | some x =>
    obtain ⟨r, S1⟩ := x
    cases r with
    | error e => exact Iff.rfl
    | ok t => cases t <;> simp
@[simp] theorem ev_for {t : Tg} {mi : M (List D)} : Es (sFor B t mi b) S K ↔ Ev mi S K.ex fun ds S1 => Es (forN B t b ds) S1 K := by
  unfold Es Ev sFor
  cases mi S with
  | none => exact Iff.rfl
  | some x =>
    obtain ⟨r, S1⟩ := x
    cases r <;> exact Iff.rfl
/-- a loop by its invariant: I k S at the start of turn k -/
theorem ev_forN {t : Tg} (I : Nat → List Slot → Prop) : ∀ {ds : List D} {S : List Slot} {k0 : Nat}, I k0 S →
    (∀ k d S, ds[k]? = some d → I (k0 + k) S → ∃ S1, bindT B t d S = some S1 ∧ Es b S1 ⟨K.ex, I (k0 + k + 1), K.rt, K.nx, I (k0 + k + 1)⟩) →
    (∀ S, I (k0 + ds.length) S → K.nx S) → Es (forN B t b ds) S K
  | [], S, k0, h0, _, he => he S h0
  | d :: ds, S, k0, h0, st, he => by
    obtain ⟨S1, e1, h1⟩ := st 0 d S rfl h0
    have go : ∀ S2, I (k0 + 1) S2 → Es (forN B t b ds) S2 K := fun S2 h => ev_forN I h (fun k d S hd hI => by
      have := st (k + 1) d S (by simpa using hd) (by rw [show k0 + (k + 1) = k0 + 1 + k by omega]; exact hI)
      rw [show k0 + (k + 1) + 1 = k0 + 1 + k + 1 by omega] at this
      exact this) (fun S hI => he S (by rw [List.length_cons, show k0 + (ds.length + 1) = k0 + 1 + ds.length by omega]; exact hI))
    unfold Es Ev forN
    rw [e1]
    unfold Es at h1
    rcases h1.ex with ⟨e, S2, h2, h3⟩ | ⟨fl, S2, h2, h3⟩
    · simp only [h2]; exact h3
    · simp only [h2]
      have go2 := go S2
      unfold Es Ev at go2
      cases fl with
      | nx => exact go2 h3
      | ct => exact go2 h3
      | bk => exact h3
      | rt => exact h3
/-- a cut behind a statement -/
theorem ev_cut (P : List Slot → Prop) (h1 : Es a S ⟨noX, P, fun _ _ _ => False, fun _ => False, fun _ => False⟩) (h2 : ∀ S1, P S1 → Es b S1 K) : Es (sSeq a b) S K := by
  rw [ev_seq]
  unfold Es at h1 ⊢
  refine h1.mono (fun _ _ h => h.elim) fun fl S1 h => ?_
  cases fl with
  | nx => exact h2 S1 h
  | rt => exact h.elim
  | bk => exact h.elim
  | ct => exact h.elim
/-- either way -/
theorem ev_two {c : M Bool} (h : Ev c S noX fun _ S1 => S1 = S) (ha : Es a S K) (hb : Es b S K) : Es (sIf c a b) S K := by
  rw [ev_if]
  refine h.mono (fun _ _ h => h.elim) fun t S1 h => ?_
  subst h
  cases t
  · exact hb
  · exact ha
end

/-! expressions: what simp computes -/
def Evo (o : Option (Sh × D)) (K : Sh → D → Prop) : Prop := match o with
  | none => False
  | some (sh, d) => K sh d
theorem evo_congr {o o' : Option (Sh × D)} {K : Sh → D → Prop} (h : o = o') : Evo o K = Evo o' K := by rw [h]
@[simp] theorem evo_n {K : Sh → D → Prop} : Evo none K ↔ False := Iff.rfl
@[simp] theorem evo_s {sh : Sh} {d : D} {K : Sh → D → Prop} : Evo (some (sh, d)) K ↔ K sh d := Iff.rfl
@[simp] theorem evo_if {c : Prop} [Decidable c] {a b : Option (Sh × D)} {K : Sh → D → Prop} : Evo (if c then a else b) K ↔ if c then Evo a K else Evo b K := by
  split <;> exact Iff.rfl
theorem Evo.ex {o : Option (Sh × D)} {K : Sh → D → Prop} (h : Evo o K) : ∃ sh d, o = some (sh, d) ∧ K sh d := by
  cases o with
  | none => exact h.elim
  | some x => exact ⟨x.1, x.2, rfl, h⟩
def Evd (o : Option D) (K : D → Prop) : Prop := match o with
  | none => False
  | some d => K d
theorem evd_congr {o o' : Option D} {K : D → Prop} (h : o = o') : Evd o K = Evd o' K := by rw [h]
@[simp] theorem evd_n {K : D → Prop} : Evd none K ↔ False := Iff.rfl
@[simp] theorem evd_s {d : D} {K : D → Prop} : Evd (some d) K ↔ K d := Iff.rfl
@[simp] theorem evd_if {c : Prop} [Decidable c] {a b : Option D} {K : D → Prop} : Evd (if c then a else b) K ↔ if c then Evd a K else Evd b K := by
  split <;> exact Iff.rfl
@[simp] theorem evo_map {o : Option D} {K : Sh → D → Prop} : Evo (o.map fun d => (.fz, d)) K ↔ Evd o fun d => K .fz d := by cases o <;> exact Iff.rfl
@[simp] theorem evd_map {α : Type} {f : α → D} {o : Option α} {K : D → Prop} : Evd (o.map f) K ↔ ∃ x, o = some x ∧ K (f x) := by cases o <;> simp
/-- what stands in a slot -/
def Evl (o : Option Slot) (K : Sh → D → Prop) : Prop := match o with
  | some (some (sh, d)) => K sh d
  | _ => False
theorem evl_congr {o o' : Option Slot} {K : Sh → D → Prop} (h : o = o') : Evl o K = Evl o' K := by rw [h]
@[simp] theorem evl_s {sh : Sh} {d : D} {K : Sh → D → Prop} : Evl (some (some (sh, d))) K ↔ K sh d := Iff.rfl
/-- the things that are looked at -/
def Evv (o : Option (List D)) (K : List D → Prop) : Prop := match o with
  | some ds => K ds
  | none => False
theorem evv_congr {o o' : Option (List D)} {K : List D → Prop} (h : o = o') : Evv o K = Evv o' K := by rw [h]
@[simp] theorem evv_s {ds : List D} {K : List D → Prop} : Evv (some ds) K ↔ K ds := Iff.rfl
@[simp] theorem evv_n {K : List D → Prop} : Evv none K ↔ False := Iff.rfl
/-- the truth value behind an expression -/
def Evb (r : Rv) (K : Bool → Prop) : Prop := match r with
  | .tmp .fz (.bl b) => K b
  | _ => False
theorem evb_congr {r r' : Rv} {K : Bool → Prop} (h : r = r') : Evb r K = Evb r' K := by rw [h]
@[simp] theorem evb_s {b : Bool} {K : Bool → Prop} : Evb (.tmp .fz (.bl b)) K ↔ K b := Iff.rfl
/-- the items of a sequence -/
def Evs (r : Rv) (K : List D → Prop) : Prop := match r with
  | .tmp sh (.lst ds) => sh.whole = true ∧ K ds
  | .tmp sh (.tup ds) => sh.whole = true ∧ K ds
  | _ => False
theorem evs_congr {r r' : Rv} {K : List D → Prop} (h : r = r') : Evs r K = Evs r' K := by rw [h]
@[simp] theorem evs_l {sh : Sh} {ds : List D} {K : List D → Prop} : Evs (.tmp sh (.lst ds)) K ↔ sh.whole = true ∧ K ds := Iff.rfl
@[simp] theorem evs_t {sh : Sh} {ds : List D} {K : List D → Prop} : Evs (.tmp sh (.tup ds)) K ↔ sh.whole = true ∧ K ds := Iff.rfl
def Evr (o : Option (List D)) (K : List D → Prop) : Prop := match o with
  | some [.int j] => okRg j = true ∧ K (rangeD 0 j.toNat)
  | some [.int i, .int j] => okRg i = true ∧ okRg j = true ∧ K (rangeD i (j - i).toNat)
  | _ => False
theorem evr_congr {o o' : Option (List D)} {K : List D → Prop} (h : o = o') : Evr o K = Evr o' K := by rw [h]
@[simp] theorem evr1 {j : Int} {K : List D → Prop} : Evr (some [.int j]) K ↔ okRg j = true ∧ K (rangeD 0 j.toNat) := Iff.rfl
@[simp] theorem evr2 {i j : Int} {K : List D → Prop} : Evr (some [.int i, .int j]) K ↔ okRg i = true ∧ okRg j = true ∧ K (rangeD i (j - i).toNat) := Iff.rfl
def Eva (o : Option (List (Sh × D) × List Slot)) (K : List (Sh × D) → List Slot → Prop) : Prop := match o with
  | some (as, S) => K as S
  | none => False
theorem eva_congr {o o' : Option (List (Sh × D) × List Slot)} {K : List (Sh × D) → List Slot → Prop} (h : o = o') : Eva o K = Eva o' K := by rw [h]
@[simp] theorem eva_s {as : List (Sh × D)} {S : List Slot} {K : List (Sh × D) → List Slot → Prop} : Eva (some (as, S)) K ↔ K as S := Iff.rfl
section
variable {S S1 : List Slot} {X : XP} {Q : Rv → List Slot → Prop} {QB : Bool → List Slot → Prop} {QA : List Rv → List Slot → Prop} {QI : List D → List Slot → Prop}
@[simp] theorem e_ref {i : Nat} : Ev (mRef i) S X Q ↔ Evl S[i]? fun _ _ => Q (.ref i []) S := by
  unfold Ev mRef Evl
  cases S[i]? with
  | none => exact Iff.rfl
  | some x => cases x <;> exact Iff.rfl
@[simp] theorem e_var {i : Nat} : Ev (mVar i) S X Q ↔ Evl S[i]? fun sh d => sh = .fz ∧ Q (.tmp .fz d) S := by
  unfold Ev mVar Evl
  cases S[i]? with
  | none => exact Iff.rfl
  | some x => cases x with
    | none => exact Iff.rfl
    | some y =>
      obtain ⟨sh, d⟩ := y
      cases sh <;> simp
@[simp] theorem e_frz {i : Nat} : Ev (mFrz i) S X Q ↔ Evl S[i]? fun sh d => sh.whole = true ∧ Q (.tmp .fz d) (S.set i (some (.fz, d))) := by
  unfold Ev mFrz Evl
  cases S[i]? with
  | none => exact Iff.rfl
  | some x => cases x with
    | none => exact Iff.rfl
    | some y =>
      obtain ⟨sh, d⟩ := y
      by_cases h : sh.whole = true
      · simp [h]
      · simp [h]
@[simp] theorem e_mov {i : Nat} : Ev (mMove i) S X Q ↔ Evl S[i]? fun sh d => Q (.tmp sh d) (S.set i none) := by
  unfold Ev mMove Evl
  cases S[i]? with
  | none => exact Iff.rfl
  | some x => cases x <;> exact Iff.rfl
@[simp] theorem e_con {d : D} : Ev (mCon d) S X Q ↔ Q (.tmp .fz d) S := Iff.rfl
@[simp] theorem e_args0 : Ev (mArgs []) S X QA ↔ QA [] S := Iff.rfl
@[simp] theorem e_args1 {q : Bool} {m : M Rv} {ms : List (Bool × M Rv)} : Ev (mArgs ((q, m) :: ms)) S X QA ↔ Ev m S X fun r S1 => Ev (mArgs ms) S1 X fun rs S2 => r.keeps (ms.all (·.1)) = true ∧ QA (r :: rs) S2 := by
  unfold Ev
  simp only [mArgs]
  cases m S with
  | none => exact Iff.rfl
  | some x =>
    obtain ⟨r, S1⟩ := x
    cases r with
    | error e => exact Iff.rfl
    | ok r =>
      simp only
      cases mArgs ms S1 with
      | none => exact Iff.rfl
      | some y =>
        obtain ⟨rs, S2⟩ := y
        cases rs with
        | error e => exact Iff.rfl
        | ok rs =>
          by_cases h : r.keeps (ms.all (·.1)) = true
          · simp [h]
          · simp [h]
@[simp] theorem e_fun {f : List D → Option (Sh × D)} {as : M (List Rv)} : Ev (mFun f as) S X Q ↔ Ev as S X fun rs S1 => Evv (seeAll S1 rs) fun ds => Evo (f ds) fun sh d => Q (.tmp sh d) S1 := by
  unfold Ev mFun
  cases as S with
  | none => exact Iff.rfl
  | some x =>
    obtain ⟨r, S1⟩ := x
    cases r with
    | error e => exact Iff.rfl
    | ok rs =>
      simp only
      cases seeAll S1 rs with
      | none => exact Iff.rfl
      | some ds =>
        simp only [evv_s]
        cases f ds with
        | none => exact Iff.rfl
        | some y => exact Iff.rfl
@[simp] theorem e_op2 {f : D → D → Option (Sh × D)} {q1 q2 : Bool} {a b : M Rv} : Ev (mOp2 f q1 a q2 b) S X Q ↔ Ev (mFun (on2 f) (mArgs [(q1, a), (q2, b)])) S X Q := Iff.rfl
@[simp] theorem e_see0 : seeAll S [] = some [] := (rfl)
def consO (d : D) : Option (List D) → Option (List D)
  | some ds => some (d :: ds)
  | none => none
@[simp] theorem consO_s {d : D} {ds : List D} : consO d (some ds) = some (d :: ds) := (rfl)
@[simp] theorem e_seeT {sh : Sh} {d : D} {rs : List Rv} : seeAll S (.tmp sh d :: rs) = if sh.flat = true then consO d (seeAll S rs) else none := by
  show (if sh.flat = true then _ else none) = _
  split
  · cases seeAll S rs <;> rfl
  · rfl
def seeO (o : Option Slot) (k : Option (List D)) : Option (List D) := match o with
  | some (some (sh, d)) => if sh.flat = true then consO d k else none
  | _ => none
@[simp] theorem seeO_s {sh : Sh} {d : D} {k : Option (List D)} : seeO (some (some (sh, d))) k = if sh.flat = true then consO d k else none := (rfl)
@[simp] theorem e_seeR {i : Nat} {rs : List Rv} : seeAll S (.ref i [] :: rs) = seeO S[i]? (seeAll S rs) := by
  have h : seeAll S (.ref i [] :: rs) = match (Rv.ref i []).see S with
    | some (sh, d) => if sh.flat = true then match seeAll S rs with
          | some ds => some (d :: ds)
          | none => none
        else none
    | none => none := rfl
  rw [h]
  have h2 : (Rv.ref i []).see S = match S[i]? with
    | some (some sd) => some sd
    | _ => none := by
    show (match S[i]? with
      | some (some sd) => pathD sd []
      | _ => none) = _
    cases S[i]? with
    | none => rfl
    | some x => cases x <;> rfl
  rw [h2]
  generalize seeAll S rs = k
  cases S[i]? with
  | none => rfl
  | some x => cases x with
    | none => rfl
    | some sd =>
      obtain ⟨sh, d⟩ := sd
      simp only [seeO_s]
      split
      · cases k <;> rfl
      · rfl
@[simp] theorem k_tmp {q : Bool} {sh : Sh} {d : D} : (Rv.tmp sh d).keeps q = true := (rfl)
@[simp] theorem k_ref {q : Bool} {i : Nat} : (Rv.ref i []).keeps q = true := (rfl)
@[simp] theorem w_fz : Sh.whole .fz = true := by simp [Sh.whole]
@[simp] theorem w_lst {c : Sh} : Sh.whole (.lst c) = c.whole := by simp [Sh.whole]
@[simp] theorem w_dct {c : Sh} : Sh.whole (.dct c) = c.whole := by simp [Sh.whole]
@[simp] theorem fl_fz : Sh.flat .fz = true := (rfl)
@[simp] theorem fl_lst : Sh.flat (.lst .fz) = true := (rfl)
@[simp] theorem fl_dct : Sh.flat (.dct .fz) = true := (rfl)
@[simp] theorem ft_fz {sh : Sh} : fits .fz sh = sh.whole := by cases sh <;> rfl
@[simp] theorem ft_lst : fits (.lst .fz) (.lst .fz) = true := (rfl)
@[simp] theorem on2_e {f : D → D → Option (Sh × D)} {x y : D} : on2 f [x, y] = f x y := (rfl)
@[simp] theorem on1_e {f : D → Option (Sh × D)} {x : D} : on1 f [x] = f x := (rfl)
@[simp] theorem add_int {i j : Int} : addF (.int i) (.int j) = some (.fz, .int (i + j)) := (rfl)
@[simp] theorem sub_int {i j : Int} : subF (.int i) (.int j) = some (.fz, .int (i - j)) := (rfl)
/-- a small number -/
def smI (i : Int) : Bool := decide (-(2 ^ 64) < i ∧ i < 2 ^ 64)
@[simp] theorem smI_e {i : Int} : smI i = true ↔ -18446744073709551616 < i ∧ i < 18446744073709551616 := by
  unfold smI
  exact decide_eq_true_iff
@[simp] theorem mul_int {i j : Int} : mulF (.int i) (.int j) = if smI i = true ∨ smI j = true then some (.fz, .int (i * j)) else none := by
  unfold mulF smI
  simp only [decide_eq_true_eq]
@[simp] theorem div_int {i j : Int} : divF (.int i) (.int j) = if 0 < j ∧ j < 1073741824 then some (.fz, .int (i / j)) else none := (rfl)
@[simp] theorem mod_int {i j : Int} : modF (.int i) (.int j) = if 0 < j then some (.fz, .int (i % j)) else none := (rfl)
@[simp] theorem pow_int {i j : Int} : powF (.int i) (.int j) = if 0 ≤ j ∧ j ≤ 1000000 ∧ i.natAbs < 2 ^ 64 then some (.fz, .int (i ^ j.toNat)) else none := (rfl)
@[simp] theorem lt_int {i j : Int} : ltF (.int i) (.int j) = some (.fz, .bl (decide (i < j))) := (rfl)
@[simp] theorem gt_int {i j : Int} : gtF (.int i) (.int j) = some (.fz, .bl (decide (j < i))) := (rfl)
@[simp] theorem le_int {i j : Int} : leF (.int i) (.int j) = some (.fz, .bl (decide (i ≤ j))) := (rfl)
@[simp] theorem ge_int {i j : Int} : geF (.int i) (.int j) = some (.fz, .bl (decide (j ≤ i))) := (rfl)
@[simp] theorem idx_lst {xs : List D} {i : Int} : idxF (.lst xs) (.int i) = (L2.atI xs i).map fun d => (.fz, d) := (rfl)
@[simp] theorem idx_tup {xs : List D} {i : Int} : idxF (.tup xs) (.int i) = (L2.atI xs i).map fun d => (.fz, d) := (rfl)
@[simp] theorem len_lst {xs : List D} : lenF (.lst xs) = some (.fz, .int xs.length) := (rfl)
@[simp] theorem len_tup {xs : List D} : lenF (.tup xs) = some (.fz, .int xs.length) := (rfl)
@[simp] theorem len_str {x : List Nat} : lenF (.str x) = if x.length ≤ sizeLine then some (.fz, .int x.length) else none := (rfl)
@[simp] theorem abs_int {i : Int} : absF (.int i) = some (.fz, .int (if i < 0 then -i else i)) := (rfl)
@[simp] theorem int_int {i : Int} : intF (.int i) = some (.fz, .int i) := (rfl)
@[simp] theorem min_int {i j : Int} : minF (.int i) (.int j) = some (.fz, .int (if j < i then j else i)) := (rfl)
@[simp] theorem max_int {i j : Int} : maxF (.int i) (.int j) = some (.fz, .int (if j > i then j else i)) := (rfl)
@[simp] theorem tup_lst {xs : List D} : tupF (.lst xs) = some (.fz, .tup xs) := (rfl)
@[simp] theorem tup_tup {xs : List D} : tupF (.tup xs) = some (.fz, .tup xs) := (rfl)
@[simp] theorem list_lst {xs : List D} : listF (.lst xs) = some (.lst .fz, .lst xs) := (rfl)
@[simp] theorem list_tup {xs : List D} : listF (.tup xs) = some (.lst .fz, .lst xs) := (rfl)
@[simp] theorem e_bool {m : M Rv} : Ev (mBool m) S X QB ↔ Ev m S X fun r S1 => Evb r fun b => QB b S1 := by
  unfold Ev mBool
  cases m S with
  | none => exact Iff.rfl
  | some x =>
    obtain ⟨r, S1⟩ := x
    cases r with
    | error e => exact Iff.rfl
    | ok r => cases r with
      | ref => exact Iff.rfl
      | tmp sh d => cases sh <;> cases d <;> exact Iff.rfl
@[simp] theorem e_and {a b : M Bool} : Ev (bAnd a b) S X QB ↔ Ev a S X fun t S1 => if t = true then Ev b S1 X QB else QB false S1 := by
  unfold Ev bAnd
  cases a S with
  | none => exact Iff.rfl
  | some x =>
    obtain ⟨r, S1⟩ := x
    cases r with
    | error e => exact Iff.rfl
    | ok t => cases t <;> simp
@[simp] theorem e_or {a b : M Bool} : Ev (bOr a b) S X QB ↔ Ev a S X fun t S1 => if t = true then QB true S1 else Ev b S1 X QB := by
  unfold Ev bOr
  cases a S with
  | none => exact Iff.rfl
  | some x =>
    obtain ⟨r, S1⟩ := x
    cases r with
    | error e => exact Iff.rfl
    | ok t => cases t <;> simp
@[simp] theorem e_not {a : M Bool} : Ev (bNot a) S X QB ↔ Ev a S X fun t S1 => QB (!t) S1 := by
  unfold Ev bNot
  cases a S with
  | none => exact Iff.rfl
  | some x =>
    obtain ⟨r, S1⟩ := x
    cases r <;> exact Iff.rfl
@[simp] theorem e_ofB {a : M Bool} : Ev (mOfB a) S X Q ↔ Ev a S X fun t S1 => Q (.tmp .fz (.bl t)) S1 := by
  unfold Ev mOfB
  cases a S with
  | none => exact Iff.rfl
  | some x =>
    obtain ⟨r, S1⟩ := x
    cases r <;> exact Iff.rfl
@[simp] theorem e_vnot {a : M Rv} : Ev (vNot a) S X Q ↔ Ev (mOfB (bNot (mBool a))) S X Q := Iff.rfl
@[simp] theorem e_vand {a b : M Rv} : Ev (vAnd a b) S X Q ↔ Ev (mBool a) S X fun t S1 => if t = true then Ev b S1 X Q else Q (.tmp .fz (.bl false)) S1 := by
  unfold Ev vAnd
  cases mBool a S with
  | none => exact Iff.rfl
  | some x =>
    obtain ⟨r, S1⟩ := x
    cases r with
    | error e => exact Iff.rfl
    | ok t => cases t <;> simp
@[simp] theorem e_vor {a b : M Rv} : Ev (vOr a b) S X Q ↔ Ev (mBool a) S X fun t S1 => if t = true then Q (.tmp .fz (.bl true)) S1 else Ev b S1 X Q := by
  unfold Ev vOr
  cases mBool a S with
  | none => exact Iff.rfl
  | some x =>
    obtain ⟨r, S1⟩ := x
    cases r with
    | error e => exact Iff.rfl
    | ok t => cases t <;> simp
@[simp] theorem e_if {c : M Bool} {a b : M Rv} : Ev (bIf c a b) S X Q ↔ Ev c S X fun t S1 => if t = true then Ev a S1 X Q else Ev b S1 X Q := by
  unfold Ev bIf
  cases c S with
  | none => exact Iff.rfl
  | some x =>
    obtain ⟨r, S1⟩ := x
    cases r with
    | error e => exact Iff.rfl
    | ok t => cases t <;> simp
@[simp] theorem e_yes : Ev bYes S X QB ↔ QB true S := Iff.rfl
@[simp] theorem e_tmps0 {c : Sh} : tmps c [] = some [] := (rfl)
@[simp] theorem e_tmps1 {c sh : Sh} {d : D} {rs : List Rv} : tmps c (.tmp sh d :: rs) = if fits c sh = true then consO d (tmps c rs) else none := by
  show (if fits c sh = true then _ else none) = _
  split
  · cases tmps c rs <;> rfl
  · rfl
@[simp] theorem e_tup {as : M (List Rv)} : Ev (mTup as) S X Q ↔ Ev as S X fun rs S1 => rs.length ≤ 1000 ∧ Evv (tmps .fz rs) fun ds => Q (.tmp .fz (.tup ds)) S1 := by
  unfold Ev mTup
  cases as S with
  | none => exact Iff.rfl
  | some x =>
    obtain ⟨r, S1⟩ := x
    cases r with
    | error e => exact Iff.rfl
    | ok rs =>
      by_cases h : rs.length ≤ 1000
      · simp only [if_pos h]
        cases tmps .fz rs <;> simp [h]
      · simp [h]
@[simp] theorem e_lst {c : Sh} {as : M (List Rv)} : Ev (mLst c as) S X Q ↔ Ev as S X fun rs S1 => rs.length ≤ 1000 ∧ Evv (tmps c rs) fun ds => Q (.tmp (.lst c) (.lst ds)) S1 := by
  unfold Ev mLst
  cases as S with
  | none => exact Iff.rfl
  | some x =>
    obtain ⟨r, S1⟩ := x
    cases r with
    | error e => exact Iff.rfl
    | ok rs =>
      by_cases h : rs.length ≤ 1000
      · simp only [if_pos h]
        cases tmps c rs <;> simp [h]
      · simp [h]
@[simp] theorem e_call {f : Fs} {as : M (List Rv)} : Ev (mCall f as) S X Q ↔ Ev as S X fun rs S1 => Eva (takeA rs S1) fun ads S2 => Ef f ads (fun e xs => X e (backA rs xs S2)) fun sh d xs => Q (.tmp sh d) (backA rs xs S2) := by
  unfold Ev mCall
  cases as S with
  | none => exact Iff.rfl
  | some x =>
    obtain ⟨r, S1⟩ := x
    cases r with
    | error e => exact Iff.rfl
    | ok rs =>
      simp only
      cases takeA rs S1 with
      | none => exact Iff.rfl
      | some y =>
        obtain ⟨ads, S2⟩ := y
        simp only [eva_s]
        unfold Ef
        cases f ads with
        | none => exact Iff.rfl
        | some z =>
          obtain ⟨r, xs⟩ := z
          cases r with
          | error e => exact Iff.rfl
          | ok sd => obtain ⟨sh, d⟩ := sd; exact Iff.rfl
@[simp] theorem e_take0 : takeA [] S = some ([], S) := (rfl)
def takeO (sd : Sh × D) : Option (List (Sh × D) × List Slot) → Option (List (Sh × D) × List Slot)
  | some (as, S) => some (sd :: as, S)
  | none => none
@[simp] theorem takeO_s {sd : Sh × D} {as : List (Sh × D)} {S : List Slot} : takeO sd (some (as, S)) = some (sd :: as, S) := (rfl)
@[simp] theorem e_takeT {sh : Sh} {d : D} {rs : List Rv} : takeA (.tmp sh d :: rs) S = takeO (sh, d) (takeA rs S) := by
  rw [takeA]
  generalize takeA rs S = k
  cases k with
  | none => rfl
  | some x => obtain ⟨a, b⟩ := x; rfl
def takeR (o : Option Slot) (k : Option (List (Sh × D) × List Slot)) : Option (List (Sh × D) × List Slot) := match o with
  | some (some sd) => takeO sd k
  | _ => none
@[simp] theorem takeR_s {sd : Sh × D} {k : Option (List (Sh × D) × List Slot)} : takeR (some (some sd)) k = takeO sd k := (rfl)
@[simp] theorem e_takeR {i : Nat} {rs : List Rv} : takeA (.ref i [] :: rs) S = takeR S[i]? (takeA rs (S.set i none)) := by
  rw [takeA]
  generalize takeA rs (S.set i none) = k
  cases S[i]? with
  | none => rfl
  | some x => cases x with
    | none => rfl
    | some sd =>
      simp only [takeR]
      cases k with
      | none => rfl
      | some x => obtain ⟨a, b⟩ := x; rfl
@[simp] theorem e_back0 {xs : List Slot} : backA [] xs S = S := by cases xs <;> rfl
@[simp] theorem e_backT {sh : Sh} {d : D} {rs : List Rv} {x : Slot} {xs : List Slot} : backA (.tmp sh d :: rs) (x :: xs) S = backA rs xs S := (rfl)
@[simp] theorem e_backR {i : Nat} {rs : List Rv} {sd : Sh × D} {xs : List Slot} : backA (.ref i [] :: rs) (some sd :: xs) S = backA rs xs (S.set i (some sd)) := (rfl)
/-- what an expression stands for -/
def Evx (r : Rv) (S : List Slot) (K : Sh → D → Prop) : Prop := match r.see S with
  | some (sh, d) => K sh d
  | none => False
theorem evx_congr {r r' : Rv} {S S' : List Slot} {K : Sh → D → Prop} (h : r = r') (h' : S = S') : Evx r S K = Evx r' S' K := by rw [h, h']
@[simp] theorem evx_t {sh : Sh} {d : D} {K : Sh → D → Prop} : Evx (.tmp sh d) S K ↔ K sh d := Iff.rfl
@[simp] theorem evx_r {i : Nat} {K : Sh → D → Prop} : Evx (.ref i []) S K ↔ Evl S[i]? K := by
  have h2 : (Rv.ref i []).see S = match S[i]? with
    | some (some sd) => some sd
    | _ => none := by
    show (match S[i]? with
      | some (some sd) => pathD sd []
      | _ => none) = _
    cases S[i]? with
    | none => rfl
    | some x => cases x <;> rfl
  unfold Evx
  rw [h2]
  cases S[i]? with
  | none => exact Iff.rfl
  | some x => cases x <;> exact Iff.rfl
@[simp] theorem e_recv {T : String} {m : M Rv} : Ev (mRecv T m) S X Q ↔ Ev m S X fun r S1 => Evx r S1 fun sh d => shOk sh = true ∧ tyM d = some T ∧ Q r S1 := by
  unfold Ev mRecv
  cases m S with
  | none => exact Iff.rfl
  | some x =>
    obtain ⟨r, S1⟩ := x
    cases r with
    | error e => exact Iff.rfl
    | ok rv =>
      simp only [Evx]
      cases rv.see S1 with
      | none => exact Iff.rfl
      | some y =>
        obtain ⟨sh, d⟩ := y
        by_cases h1 : shOk sh = true
        · by_cases h2 : tyM d = some T
          · simp [h1, h2]
          · simp [h1, h2]
        · simp [h1]
def Evp (sh : Sh) (d : D) (K : Sh → List D → Prop) : Prop := match sh, d with
  | .lst c, .lst ds => K c ds
  | _, _ => False
@[simp] theorem evp_e {c : Sh} {ds : List D} {K : Sh → List D → Prop} : Evp (.lst c) (.lst ds) K ↔ K c ds := Iff.rfl
theorem evp_congr {sh sh' : Sh} {d d' : D} {K : Sh → List D → Prop} (h : sh = sh') (h' : d = d') : Evp sh d K = Evp sh' d' K := by rw [h, h']
def Eap (rs : List Rv) (S1 : List Slot) (Q : Rv → List Slot → Prop) : Prop := match rs with
  | [.ref i [], .tmp sh d] => Evl S1[i]? fun sh' d' => Evp sh' d' fun c ds => fits c sh = true ∧ ds.length < sizeLine ∧ Q (.tmp .fz .non) (S1.set i (some (.lst c, .lst (ds ++ [d]))))
  | _ => False
theorem eap_congr {rs rs' : List Rv} {S1 S2 : List Slot} {Q : Rv → List Slot → Prop} (h : rs = rs') (h' : S1 = S2) : Eap rs S1 Q = Eap rs' S2 Q := by rw [h, h']
@[simp] theorem eap_e {i : Nat} {sh : Sh} {d : D} : Eap [.ref i [], .tmp sh d] S1 Q ↔ Evl S1[i]? fun sh' d' => Evp sh' d' fun c ds => fits c sh = true ∧ ds.length < sizeLine ∧ Q (.tmp .fz .non) (S1.set i (some (.lst c, .lst (ds ++ [d])))) := Iff.rfl
@[simp] theorem e_append {as : M (List Rv)} : Ev (mAppend as) S X Q ↔ Ev as S X fun rs S1 => Eap rs S1 Q := by
  unfold Ev mAppend
  cases as S with
  | none => exact Iff.rfl
  | some x =>
    obtain ⟨r, S1⟩ := x
    cases r with
    | error e => exact Iff.rfl
    | ok rs =>
      cases rs with
      | nil => exact Iff.rfl
      | cons r rs => cases r with
        | tmp => exact Iff.rfl
        | ref i p => cases p with
          | cons => exact Iff.rfl
          | nil => cases rs with
            | nil => exact Iff.rfl
            | cons r2 rs => cases r2 with
              | ref => exact Iff.rfl
              | tmp sh d => cases rs with
                | cons => exact Iff.rfl
                | nil =>
                  simp only [Eap]
                  cases S1[i]? with
                  | none => exact Iff.rfl
                  | some y => cases y with
                    | none => exact Iff.rfl
                    | some z =>
                      obtain ⟨sh2, d2⟩ := z
                      cases sh2 <;> cases d2 <;> try exact Iff.rfl
                      rename_i c ds
                      simp only [evl_s, evp_e]
                      by_cases h1 : fits c sh = true
                      · by_cases h2 : ds.length < sizeLine
                        · simp [h1, h2]
                        · simp [h1, h2]
                      · simp [h1]
@[simp] theorem tyM_lst {ds : List D} : tyM (.lst ds) = some "list" := (rfl)
@[simp] theorem tyM_str {ds : List Nat} : tyM (.str ds) = some "str" := (rfl)
@[simp] theorem shOk_fz : shOk .fz = true := (rfl)
@[simp] theorem shOk_lst {c : Sh} : shOk (.lst c) = true := (rfl)
@[simp] theorem noB_e {i : Nat} : noB i = false := (rfl)
@[simp] theorem e_iseq {m : M Rv} : Ev (iSeq m) S X QI ↔ Ev m S X fun r S1 => Evs r fun ds => QI ds S1 := by
  unfold Ev iSeq
  cases m S with
  | none => exact Iff.rfl
  | some x =>
    obtain ⟨r, S1⟩ := x
    cases r with
    | error e => exact Iff.rfl
    | ok r => cases r with
      | ref => exact Iff.rfl
      | tmp sh d =>
        cases d <;> try exact Iff.rfl
        · by_cases h : sh.whole = true
          · simp [h]
          · simp [h]
        · by_cases h : sh.whole = true
          · simp [h]
          · simp [h]
@[simp] theorem e_irng {m : M (List Rv)} : Ev (iRng m) S X QI ↔ Ev m S X fun rs S1 => Evr (seeAll S1 rs) fun ds => QI ds S1 := by
  unfold Ev iRng
  cases m S with
  | none => exact Iff.rfl
  | some x =>
    obtain ⟨r, S1⟩ := x
    cases r with
    | error e => exact Iff.rfl
    | ok rs =>
      simp only [Evr]
      generalize seeAll S1 rs = o
      cases o with
      | none => exact Iff.rfl
      | some l => cases l with
        | nil => exact Iff.rfl
        | cons x l => cases x <;> try exact Iff.rfl
                      cases l with
                      | nil =>
                        rename_i j
                        by_cases h : okRg j = true
                        · simp [h]
                        · simp only [if_neg h, h]; simp
                      | cons y l => cases y <;> try exact Iff.rfl
                                    cases l with
                                    | cons => exact Iff.rfl
                                    | nil =>
                                      rename_i i j
                                      by_cases h : okRg i = true ∧ okRg j = true
                                      · simp only [if_pos h]; simp only [h.1, h.2, true_and]
                                      · simp only [if_neg h]
                                        exact ⟨fun x => x.elim, fun x => h ⟨x.1, x.2.1⟩⟩
@[simp] theorem bind_nm {B : Bw} {i : Nat} {d : D} : bindT B (.nm i) d S = if B i = true then none else if i < S.length then some (S.set i (some (.fz, d))) else none := (rfl)
@[simp] theorem keep0 {B : Bw} {j : Nat} : keepB B j [] = [] := (rfl)
@[simp] theorem keep1 {B : Bw} {j : Nat} {x : Slot} : keepB B j (x :: S) = (if B j = true then x else none) :: keepB B (j + 1) S := (rfl)
@[simp] theorem noX_e {e : Exc} : noX e S = False := (rfl)
end
end Dt

/-! Places, ranges, equality, comprehensions. -/
namespace Dt
open PySem PySem.Spec PyProof.Rows L2

@[simp] theorem atI_nn {α : Type} {xs : List α} {i : Int} (h : 0 ≤ i) : L2.atI xs i = xs[i.toNat]? := by
  unfold L2.atI L2.ixN
  rw [if_pos h]
  by_cases h1 : i < xs.length
  · rw [if_pos h1]; rfl
  · rw [if_neg h1, List.getElem?_eq_none (by omega)]; rfl
@[simp] theorem atI_cast {α : Type} {xs : List α} {k : Nat} : L2.atI xs (k : Int) = xs[k]? := by rw [atI_nn (by omega)]; simp
@[simp] theorem range_get {lo : Int} {n k : Nat} : (rangeD lo n)[k]? = if k < n then some (.int (lo + k)) else none := by
  unfold rangeD
  rw [List.getElem?_map]
  by_cases h : k < n
  · rw [List.getElem?_range h, if_pos h]; rfl
  · rw [List.getElem?_eq_none (by simpa using h), if_neg h]; rfl
@[simp] theorem range_len {lo : Int} {n : Nat} : (rangeD lo n).length = n := by simp [rangeD]
theorem mem_range {d : D} {lo : Int} {n : Nat} : d ∈ rangeD lo n ↔ ∃ k : Nat, k < n ∧ d = .int (lo + k) := by
  unfold rangeD
  simp only [List.mem_map, List.mem_range]
  constructor
  · rintro ⟨k, h, rfl⟩; exact ⟨k, h, rfl⟩
  · rintro ⟨k, h, rfl⟩; exact ⟨k, h, rfl⟩
theorem okRg_of {i : Int} (h1 : -4611686018427387904 ≤ i) (h2 : i < 4611686018427387904) : okRg i = true := by
  unfold okRg
  exact decide_eq_true ⟨h1, h2⟩
@[simp] theorem okRg_e {i : Int} : okRg i = true ↔ -4611686018427387904 ≤ i ∧ i < 4611686018427387904 := by
  unfold okRg
  exact decide_eq_true_iff
theorem okRg_nat {n : Nat} (h : n ≤ 1000000) : okRg (n : Int) = true := okRg_of (by omega) (by omega)

/-! equality of data without truth values -/
def okS (x : List Nat) : Bool := x.all (· < 0x110000)
mutual
def pl : Nat → D → Bool
  | 0, _ => false
  | _ + 1, .non => true
  | _ + 1, .int _ => true
  | _ + 1, .str x => okS x
  | n + 1, .tup xs => pls n xs
  | n + 1, .lst xs => pls n xs
  | _ + 1, _ => false
def pls : Nat → List D → Bool
  | _, [] => true
  | n, x :: xs => pl n x && pls n xs
end
theorem pls_iff {n : Nat} : ∀ {xs : List D}, pls n xs = true ↔ ∀ x ∈ xs, pl n x = true
  | [] => by simp [pls]
  | x :: xs => by simp [pls, pls_iff (xs := xs)]
mutual
theorem pl_py : ∀ {n : Nat} {d : D}, pl n d = true → ∃ p, d.py = some p ∧ p.canLay0 = true ∧ p.depth ≤ n
  | 0, _, h => by simp [pl] at h
  | n + 1, .non, h => ⟨_, rfl, rfl, by simp [PyData.depth]⟩
  | n + 1, .int i, h => ⟨_, rfl, rfl, by simp [PyData.depth]⟩
  | n + 1, .str x, h => ⟨_, rfl, by simpa [PyData.canLay0, PyData.strOk, pl, okS] using h, by simp [PyData.depth]⟩
  | n + 1, .tup xs, h => by
    obtain ⟨ps, e, c, d⟩ := pls_py (n := n) (xs := xs) (by simpa [pl] using h)
    exact ⟨.tuple ps, by simp [D.py, e], by simpa [PyData.canLay0] using c, by simp [PyData.depth]; omega⟩
  | n + 1, .lst xs, h => by
    obtain ⟨ps, e, c, d⟩ := pls_py (n := n) (xs := xs) (by simpa [pl] using h)
    exact ⟨.list ps, by simp [D.py, e], by simpa [PyData.canLay0] using c, by simp [PyData.depth]; omega⟩
  | n + 1, .bl _, h => by simp [pl] at h
  | n + 1, .dct _, h => by simp [pl] at h
  | n + 1, .set _, h => by simp [pl] at h
  | n + 1, .ins _ _, h => by simp [pl] at h
  | n + 1, .ty _, h => by simp [pl] at h
  | n + 1, .cls _, h => by simp [pl] at h
theorem pls_py : ∀ {n : Nat} {xs : List D}, pls n xs = true → ∃ ps, D.pys xs = some ps ∧ PyData.canLayAll0 ps = true ∧ PyData.depthAll ps ≤ n
  | n, [], h => ⟨[], rfl, rfl, by simp [PyData.depthAll]⟩
  | n, x :: xs, h => by
    simp only [pls, Bool.and_eq_true] at h
    obtain ⟨p, e1, c1, d1⟩ := pl_py h.1
    obtain ⟨ps, e2, c2, d2⟩ := pls_py h.2
    exact ⟨p :: ps, by simp [D.pys, e1, e2], by simp [PyData.canLayAll0, c1, c2], by simp [PyData.depthAll]; omega⟩
end
mutual
theorem eqv_pl : ∀ {n m : Nat} {a b : D} {p p' : PyData}, pl n a = true → pl m b = true → a.py = some p → b.py = some p' → (PyData.eqv p p' = true ↔ a = b)
  | 0, _, _, _, _, _, h, _, _, _ => by simp [pl] at h
  | _ + 1, 0, _, _, _, _, _, h, _, _ => by simp [pl] at h
  | n + 1, m + 1, .tup xs, .tup ys, p, p', h, h', e, e' => by
    obtain ⟨ps, e1, _⟩ := pls_py (n := n) (xs := xs) (by simpa [pl] using h)
    obtain ⟨qs, e2, _⟩ := pls_py (n := m) (xs := ys) (by simpa [pl] using h')
    simp only [D.py, e1, e2, Option.some.injEq] at e e'
    subst e; subst e'
    have := eqvs_pl (n := n) (m := m) (xs := xs) (ys := ys) (by simpa [pl] using h) (by simpa [pl] using h') e1 e2
    simpa [PyData.eqv] using this
  | n + 1, m + 1, .lst xs, .lst ys, p, p', h, h', e, e' => by
    obtain ⟨ps, e1, _⟩ := pls_py (n := n) (xs := xs) (by simpa [pl] using h)
    obtain ⟨qs, e2, _⟩ := pls_py (n := m) (xs := ys) (by simpa [pl] using h')
    simp only [D.py, e1, e2, Option.some.injEq] at e e'
    subst e; subst e'
    have := eqvs_pl (n := n) (m := m) (xs := xs) (ys := ys) (by simpa [pl] using h) (by simpa [pl] using h') e1 e2
    simpa [PyData.eqv] using this
  | n + 1, m + 1, .tup xs, .non, p, p', h, h', e, e' => by
    obtain ⟨ps, e1, _⟩ := pls_py (n := n) (xs := xs) (by simpa [pl] using h)
    simp only [D.py, e1, Option.some.injEq] at e e'; subst e; subst e'; simp [PyData.eqv]
  | n + 1, m + 1, .tup xs, .int _, p, p', h, h', e, e' => by
    obtain ⟨ps, e1, _⟩ := pls_py (n := n) (xs := xs) (by simpa [pl] using h)
    simp only [D.py, e1, Option.some.injEq] at e e'; subst e; subst e'; simp [PyData.eqv]
  | n + 1, m + 1, .tup xs, .str _, p, p', h, h', e, e' => by
    obtain ⟨ps, e1, _⟩ := pls_py (n := n) (xs := xs) (by simpa [pl] using h)
    simp only [D.py, e1, Option.some.injEq] at e e'; subst e; subst e'; simp [PyData.eqv]
  | n + 1, m + 1, .tup xs, .lst ys, p, p', h, h', e, e' => by
    obtain ⟨ps, e1, _⟩ := pls_py (n := n) (xs := xs) (by simpa [pl] using h)
    obtain ⟨qs, e2, _⟩ := pls_py (n := m) (xs := ys) (by simpa [pl] using h')
    simp only [D.py, e1, e2, Option.some.injEq] at e e'; subst e; subst e'; simp [PyData.eqv]
  | n + 1, m + 1, .lst xs, .non, p, p', h, h', e, e' => by
    obtain ⟨ps, e1, _⟩ := pls_py (n := n) (xs := xs) (by simpa [pl] using h)
    simp only [D.py, e1, Option.some.injEq] at e e'; subst e; subst e'; simp [PyData.eqv]
  | n + 1, m + 1, .lst xs, .int _, p, p', h, h', e, e' => by
    obtain ⟨ps, e1, _⟩ := pls_py (n := n) (xs := xs) (by simpa [pl] using h)
    simp only [D.py, e1, Option.some.injEq] at e e'; subst e; subst e'; simp [PyData.eqv]
  | n + 1, m + 1, .lst xs, .str _, p, p', h, h', e, e' => by
    obtain ⟨ps, e1, _⟩ := pls_py (n := n) (xs := xs) (by simpa [pl] using h)
    simp only [D.py, e1, Option.some.injEq] at e e'; subst e; subst e'; simp [PyData.eqv]
  | n + 1, m + 1, .lst xs, .tup ys, p, p', h, h', e, e' => by
    obtain ⟨ps, e1, _⟩ := pls_py (n := n) (xs := xs) (by simpa [pl] using h)
    obtain ⟨qs, e2, _⟩ := pls_py (n := m) (xs := ys) (by simpa [pl] using h')
    simp only [D.py, e1, e2, Option.some.injEq] at e e'; subst e; subst e'; simp [PyData.eqv]
  | n + 1, m + 1, .non, .tup ys, p, p', h, h', e, e' => by
    obtain ⟨qs, e2, _⟩ := pls_py (n := m) (xs := ys) (by simpa [pl] using h')
    simp only [D.py, e2, Option.some.injEq] at e e'; subst e; subst e'; simp [PyData.eqv]
  | n + 1, m + 1, .int _, .tup ys, p, p', h, h', e, e' => by
    obtain ⟨qs, e2, _⟩ := pls_py (n := m) (xs := ys) (by simpa [pl] using h')
    simp only [D.py, e2, Option.some.injEq] at e e'; subst e; subst e'; simp [PyData.eqv]
  | n + 1, m + 1, .str _, .tup ys, p, p', h, h', e, e' => by
    obtain ⟨qs, e2, _⟩ := pls_py (n := m) (xs := ys) (by simpa [pl] using h')
    simp only [D.py, e2, Option.some.injEq] at e e'; subst e; subst e'; simp [PyData.eqv]
  | n + 1, m + 1, .non, .lst ys, p, p', h, h', e, e' => by
    obtain ⟨qs, e2, _⟩ := pls_py (n := m) (xs := ys) (by simpa [pl] using h')
    simp only [D.py, e2, Option.some.injEq] at e e'; subst e; subst e'; simp [PyData.eqv]
  | n + 1, m + 1, .int _, .lst ys, p, p', h, h', e, e' => by
    obtain ⟨qs, e2, _⟩ := pls_py (n := m) (xs := ys) (by simpa [pl] using h')
    simp only [D.py, e2, Option.some.injEq] at e e'; subst e; subst e'; simp [PyData.eqv]
  | n + 1, m + 1, .str _, .lst ys, p, p', h, h', e, e' => by
    obtain ⟨qs, e2, _⟩ := pls_py (n := m) (xs := ys) (by simpa [pl] using h')
    simp only [D.py, e2, Option.some.injEq] at e e'; subst e; subst e'; simp [PyData.eqv]
  | n + 1, m + 1, .non, .non, p, p', h, h', e, e' => by cases e; cases e'; simp [PyData.eqv]
  | n + 1, m + 1, .non, .int _, p, p', h, h', e, e' => by cases e; cases e'; simp [PyData.eqv]
  | n + 1, m + 1, .non, .str _, p, p', h, h', e, e' => by cases e; cases e'; simp [PyData.eqv]
  | n + 1, m + 1, .int _, .non, p, p', h, h', e, e' => by cases e; cases e'; simp [PyData.eqv]
  | n + 1, m + 1, .int _, .int _, p, p', h, h', e, e' => by cases e; cases e'; simp [PyData.eqv]
  | n + 1, m + 1, .int _, .str _, p, p', h, h', e, e' => by cases e; cases e'; simp [PyData.eqv]
  | n + 1, m + 1, .str _, .non, p, p', h, h', e, e' => by cases e; cases e'; simp [PyData.eqv]
  | n + 1, m + 1, .str _, .int _, p, p', h, h', e, e' => by cases e; cases e'; simp [PyData.eqv]
  | n + 1, m + 1, .str _, .str _, p, p', h, h', e, e' => by cases e; cases e'; simp [PyData.eqv]
  | n + 1, m + 1, .bl _, _, p, p', h, h', e, e' => by simp [pl] at h
  | n + 1, m + 1, .dct _, _, p, p', h, h', e, e' => by simp [pl] at h
  | n + 1, m + 1, .set _, _, p, p', h, h', e, e' => by simp [pl] at h
  | n + 1, m + 1, .ins _ _, _, p, p', h, h', e, e' => by simp [pl] at h
  | n + 1, m + 1, .ty _, _, p, p', h, h', e, e' => by simp [pl] at h
  | n + 1, m + 1, .cls _, _, p, p', h, h', e, e' => by simp [pl] at h
  | n + 1, m + 1, _, .bl _, p, p', h, h', e, e' => by simp [pl] at h'
  | n + 1, m + 1, _, .dct _, p, p', h, h', e, e' => by simp [pl] at h'
  | n + 1, m + 1, _, .set _, p, p', h, h', e, e' => by simp [pl] at h'
  | n + 1, m + 1, _, .ins _ _, p, p', h, h', e, e' => by simp [pl] at h'
  | n + 1, m + 1, _, .ty _, p, p', h, h', e, e' => by simp [pl] at h'
  | n + 1, m + 1, _, .cls _, p, p', h, h', e, e' => by simp [pl] at h'
theorem eqvs_pl : ∀ {n m : Nat} {xs ys : List D} {ps ps' : List PyData}, pls n xs = true → pls m ys = true → D.pys xs = some ps → D.pys ys = some ps' → (PyData.eqvAll ps ps' = true ↔ xs = ys)
  | _, _, [], [], _, _, _, _, e, e' => by cases e; cases e'; simp [PyData.eqvAll]
  | n, m, [], y :: ys, _, _, h, h', e, e' => by
    cases e
    simp only [pls, Bool.and_eq_true] at h'
    obtain ⟨p, e1, _⟩ := pl_py h'.1
    obtain ⟨qs, e2, _⟩ := pls_py h'.2
    simp only [D.pys, e1, e2, Option.some.injEq] at e'
    subst e'; simp [PyData.eqvAll]
  | n, m, x :: xs, [], _, _, h, h', e, e' => by
    cases e'
    simp only [pls, Bool.and_eq_true] at h
    obtain ⟨p, e1, _⟩ := pl_py h.1
    obtain ⟨qs, e2, _⟩ := pls_py h.2
    simp only [D.pys, e1, e2, Option.some.injEq] at e
    subst e; simp [PyData.eqvAll]
  | n, m, x :: xs, y :: ys, _, _, h, h', e, e' => by
    simp only [pls, Bool.and_eq_true] at h h'
    obtain ⟨p, e1, _⟩ := pl_py h.1
    obtain ⟨ps, e2, _⟩ := pls_py h.2
    obtain ⟨q, e3, _⟩ := pl_py h'.1
    obtain ⟨qs, e4, _⟩ := pls_py h'.2
    simp only [D.pys, e1, e2, e3, e4, Option.some.injEq] at e e'
    subst e; subst e'
    simp only [PyData.eqvAll, Bool.and_eq_true, eqv_pl h.1 h'.1 e1 e3, eqvs_pl h.2 h'.2 e2 e4, List.cons.injEq]
end
open Classical in
theorem eqB_pl {n m : Nat} {a b : D} (ha : pl n a = true) (hb : pl m b = true) (hn : n ≤ 64) (hm : m ≤ 64) : eqB a b = some (decide (a = b)) := by
  obtain ⟨p, e1, c1, d1⟩ := pl_py ha
  obtain ⟨q, e2, c2, d2⟩ := pl_py hb
  unfold eqB
  simp only [e1, e2]
  have s1 : SeqAt.shaped p = true := by simp [SeqAt.shaped, c1]; omega
  have s2 : SeqAt.shaped q = true := by simp [SeqAt.shaped, c2]; omega
  rw [if_pos ⟨s1, s2⟩]
  congr 1
  have := eqv_pl ha hb e1 e2
  by_cases h : a = b
  · rw [this.mpr h]; simp [h]
  · have : ¬ PyData.eqv p q = true := fun x => h (this.mp x)
    simp [h]; simpa using this
@[simp] theorem eqF_int {i j : Int} : eqF (.int i) (.int j) = some (.fz, .bl (decide (i = j))) := by
  unfold eqF
  rw [eqB_pl (n := 1) (m := 1) rfl rfl (by omega) (by omega)]
  by_cases h : i = j
  · simp [h]
  · simp [h]
@[simp] theorem neF_int {i j : Int} : neF (.int i) (.int j) = some (.fz, .bl (!decide (i = j))) := by
  unfold neF
  rw [eqB_pl (n := 1) (m := 1) rfl rfl (by omega) (by omega)]
  by_cases h : i = j
  · simp [h]
  · simp [h]
theorem eqF_str {x y : List Nat} (hx : okS x = true) (hy : okS y = true) : eqF (.str x) (.str y) = some (.fz, .bl (decide (x = y))) := by
  unfold eqF
  rw [eqB_pl (n := 1) (m := 1) (by simpa [pl] using hx) (by simpa [pl] using hy) (by omega) (by omega)]
  by_cases h : x = y
  · simp [h]
  · simp [h]
theorem neF_str {x y : List Nat} (hx : okS x = true) (hy : okS y = true) : neF (.str x) (.str y) = some (.fz, .bl (!decide (x = y))) := by
  unfold neF
  rw [eqB_pl (n := 1) (m := 1) (by simpa [pl] using hx) (by simpa [pl] using hy) (by omega) (by omega)]
  by_cases h : x = y
  · simp [h]
  · simp [h]
@[simp] theorem eqF_bl {b c : Bool} : eqF (.bl b) (.bl c) = some (.fz, .bl (b == c)) := by
  cases b <;> cases c <;> rfl
@[simp] theorem neF_bl {b c : Bool} : neF (.bl b) (.bl c) = some (.fz, .bl (!(b == c))) := by
  cases b <;> cases c <;> rfl

/-! comprehensions -/
theorem lc_inv {vs : List Nat} {t : Tg} {tt : M Bool} {me : M Rv} {c : Sh} (J : List Slot → Prop) (p : D → Bool) (g : D → D) : ∀ {ds acc : List D} {S : List Slot}, J S →
    (∀ d ∈ ds, ∀ S, J S → ∃ S1 S2, bindT noB t d S = some S1 ∧ tt S1 = some (.ok (p d), S2) ∧ (p d = true → ∃ sh S3, me S2 = some (.ok (.tmp sh (g d)), S3) ∧ fits c sh = true ∧ J (wipeS S3 vs)) ∧ (p d = false → J (wipeS S2 vs))) →
    ∃ S', lcN vs t tt me c ds acc S = some (acc ++ (ds.filter p).map g, S') ∧ J S'
  | [], acc, S, hJ, _ => ⟨S, by simp [lcN], hJ⟩
  | d :: ds, acc, S, hJ, st => by
    obtain ⟨S1, S2, e1, e2, h1, h2⟩ := st d (by simp) S hJ
    unfold lcN
    simp only [e1, e2]
    cases hp : p d with
    | false =>
      obtain ⟨S', e, hJ'⟩ := lc_inv J p g (ds := ds) (acc := acc) (h2 hp) fun d hd => st d (by simp [hd])
      exact ⟨S', by simp [hp, e], hJ'⟩
    | true =>
      obtain ⟨sh, S3, e3, hf, hJ3⟩ := h1 hp
      obtain ⟨S', e, hJ'⟩ := lc_inv J p g (ds := ds) (acc := acc ++ [g d]) hJ3 fun d hd => st d (by simp [hd])
      exact ⟨S', by simp [hp, e3, hf, e], hJ'⟩
/-- a comprehension whose turns leave the slots as they are -/
theorem lc_fix {vs : List Nat} {t : Tg} {mi : M (List D)} {tt : M Bool} {me : M Rv} {c : Sh} {S S1 : List Slot} {ds : List D} (p : D → Bool) (g : D → D) (hm : mi S = some (.ok ds, S1)) (hl : ds.length ≤ sizeLine)
    (st : ∀ d ∈ ds, ∃ S2 S3, bindT noB t d (wipeS S1 vs) = some S2 ∧ tt S2 = some (.ok (p d), S3) ∧ (p d = true → ∃ sh S4, me S3 = some (.ok (.tmp sh (g d)), S4) ∧ fits c sh = true ∧ wipeS S4 vs = wipeS S1 vs) ∧ (p d = false → wipeS S3 vs = wipeS S1 vs)) :
    mLc vs t mi tt me c S = some (.ok (.tmp (.lst c) (.lst ((ds.filter p).map g))), restS S1 (wipeS S1 vs) vs) := by
  obtain ⟨S', e, hJ⟩ := lc_inv (vs := vs) (t := t) (tt := tt) (me := me) (c := c) (fun S' => S' = wipeS S1 vs) p g (ds := ds) (acc := []) rfl (fun d hd S hS => by subst hS; exact st d hd)
  subst hJ
  unfold mLc
  simp only [hm, if_pos hl, e, List.nil_append]
/-- the same, as simp meets it -/
theorem ev_lc {vs : List Nat} {t : Tg} {mi : M (List D)} {tt : M Bool} {me : M Rv} {c : Sh} {S : List Slot} {X : XP} {Q : Rv → List Slot → Prop} (p : D → Bool) (g : D → D)
    (h : Ev mi S X fun ds S1 => ds.length ≤ sizeLine ∧
        (∀ d ∈ ds, ∃ S2, bindT noB t d (wipeS S1 vs) = some S2 ∧ Ev tt S2 noX fun b S3 => b = p d ∧ (p d = true → Ev me S3 noX fun r S4 => Tmp r fun sh x => x = g d ∧ fits c sh = true ∧ wipeS S4 vs = wipeS S1 vs) ∧ (p d = false → wipeS S3 vs = wipeS S1 vs)) ∧
        Q (.tmp (.lst c) (.lst ((ds.filter p).map g))) (restS S1 (wipeS S1 vs) vs)) : Ev (mLc vs t mi tt me c) S X Q := by
  rcases h.ex with ⟨e, S1, h1, h2⟩ | ⟨ds, S1, h1, hl, st, q⟩
  · refine (Ev.err (x := e) (S1 := S1) ?_).mpr h2
    unfold mLc
    simp only [h1]
  · refine (Ev.ok (lc_fix (vs := vs) (t := t) (tt := tt) (me := me) (c := c) p g h1 hl fun d hd => ?_)).mpr q
    obtain ⟨S2, e2, h2⟩ := st d hd
    rcases h2.ex with ⟨_, _, _, h⟩ | ⟨b, S3, e3, rfl, h3, h4⟩
    · exact h.elim
    refine ⟨S2, S3, e2, e3, fun hp => ?_, h4⟩
    rcases (h3 hp).ex with ⟨_, _, _, h⟩ | ⟨r, S4, e4, h5⟩
    · exact h.elim
    cases r with
    | ref => exact h5.elim
    | tmp sh x =>
      obtain ⟨rfl, hf, hw⟩ := h5
      exact ⟨_, S4, e4, hf, hw⟩
@[simp] theorem wipe0 {S : List Slot} : wipeS S [] = S := (rfl)
@[simp] theorem wipe1 {S : List Slot} {v : Nat} {vs : List Nat} : wipeS S (v :: vs) = (wipeS S vs).set v none := (rfl)
@[simp] theorem rest0 {S S' : List Slot} : restS S S' [] = S' := (rfl)
@[simp] theorem rest1 {S S' : List Slot} {v : Nat} {vs : List Nat} : restS S S' (v :: vs) = (restS S S' vs).set v (S.getD v none) := (rfl)
/-- a comprehension whose items keep P -/
theorem lc_all {vs : List Nat} {t : Tg} {tt : M Bool} {me : M Rv} {c : Sh} (J : List Slot → Prop) (P : D → Prop) : ∀ {ds acc : List D} {S : List Slot}, J S → (∀ x ∈ acc, P x) →
    (∀ d ∈ ds, ∀ S, J S → ∃ S1, bindT noB t d S = some S1 ∧ Ev tt S1 noX fun b S2 => (b = true → Ev me S2 noX fun r S3 => Tmp r fun sh x => P x ∧ fits c sh = true ∧ J (wipeS S3 vs)) ∧ (b = false → J (wipeS S2 vs))) →
    ∃ xs S', lcN vs t tt me c ds acc S = some (xs, S') ∧ J S' ∧ (∀ x ∈ xs, P x) ∧ xs.length ≤ acc.length + ds.length
  | [], acc, S, hJ, hP, _ => ⟨acc, S, by simp [lcN], hJ, hP, by simp⟩
  | d :: ds, acc, S, hJ, hP, st => by
    obtain ⟨S1, e1, h1⟩ := st d (by simp) S hJ
    rcases h1.ex with ⟨_, _, _, h⟩ | ⟨b, S2, e2, h2, h3⟩
    · exact h.elim
    unfold lcN
    simp only [e1, e2]
    cases b with
    | false =>
      obtain ⟨xs, S', e, hJ', hx, hl⟩ := lc_all J P (ds := ds) (acc := acc) (h3 rfl) hP fun d hd => st d (by simp [hd])
      exact ⟨xs, S', by simp [e], hJ', hx, by simp; omega⟩
    | true =>
      rcases (h2 rfl).ex with ⟨_, _, _, h⟩ | ⟨r, S3, e3, h4⟩
      · exact h.elim
      cases r with
      | ref => exact h4.elim
      | tmp sh x =>
        obtain ⟨px, hf, hJ3⟩ := h4
        obtain ⟨xs, S', e, hJ', hx, hl⟩ := lc_all J P (ds := ds) (acc := acc ++ [x]) hJ3 (fun y hy => by
          rcases List.mem_append.mp hy with h | h
          · exact hP y h
          · simp at h; subst h; exact px) fun d hd => st d (by simp [hd])
        exact ⟨xs, S', by simp [e3, hf, e], hJ', hx, by simp at hl ⊢; omega⟩
theorem ev_lcE {vs : List Nat} {t : Tg} {mi : M (List D)} {tt : M Bool} {me : M Rv} {c : Sh} {S : List Slot} {X : XP} {Q : Rv → List Slot → Prop} (P : D → Prop)
    (h : Ev mi S X fun ds S1 => ds.length ≤ sizeLine ∧
        (∀ d ∈ ds, ∃ S2, bindT noB t d (wipeS S1 vs) = some S2 ∧ Ev tt S2 noX fun b S3 => (b = true → Ev me S3 noX fun r S4 => Tmp r fun sh x => P x ∧ fits c sh = true ∧ wipeS S4 vs = wipeS S1 vs) ∧ (b = false → wipeS S3 vs = wipeS S1 vs)) ∧
        ∀ xs : List D, (∀ x ∈ xs, P x) → xs.length ≤ ds.length → Q (.tmp (.lst c) (.lst xs)) (restS S1 (wipeS S1 vs) vs)) : Ev (mLc vs t mi tt me c) S X Q := by
  rcases h.ex with ⟨e, S1, h1, h2⟩ | ⟨ds, S1, h1, hl, st, q⟩
  · refine (Ev.err (x := e) (S1 := S1) ?_).mpr h2
    unfold mLc
    simp only [h1]
  · obtain ⟨xs, S', e2, rfl, hx, hlx⟩ := lc_all (vs := vs) (t := t) (tt := tt) (me := me) (c := c) (fun S' => S' = wipeS S1 vs) P (ds := ds) (acc := []) rfl (by simp) (fun d hd S hS => by
      subst hS
      exact st d hd)
    refine (Ev.ok (r := .tmp (.lst c) (.lst xs)) (S1 := restS S1 (wipeS S1 vs) vs) ?_).mpr (q xs hx (by simpa using hlx))
    unfold mLc
    simp only [h1, if_pos hl, e2]
theorem sizeLine_le {n : Nat} (h : n ≤ 16777216) : n ≤ sizeLine := h
theorem sizeLine_lt {n : Nat} (h : n < 16777216) : n < sizeLine := h
theorem sortOk_str {xs : List D} (h : ∀ x ∈ xs, ∃ w, x = .str w) (hl : xs.length ≤ sizeLine) : sortOk xs = true := by
  have key : ∀ xs : List D, (∀ x ∈ xs, ∃ w, x = .str w) → ∃ ps, D.pys xs = some ps ∧ ∀ p ∈ ps, ∃ y, p = PyData.str y := fun xs => by
    induction xs with
    | nil => exact fun _ => ⟨[], rfl, by simp⟩
    | cons x xs ih =>
      intro h
      obtain ⟨ps, e, hp⟩ := ih fun y hy => h y (by simp [hy])
      obtain ⟨w, rfl⟩ := h x (by simp)
      exact ⟨_, by simp only [D.pys, D.py, e]; rfl, by
        intro p hp'
        rcases List.mem_cons.mp hp' with rfl | hp'
        · exact ⟨_, rfl⟩
        · exact hp p hp'⟩
  obtain ⟨ps, e, hp⟩ := key xs h
  unfold sortOk
  rw [e]
  simp only [Bool.and_eq_true, List.all_eq_true, decide_eq_true_eq]
  refine ⟨⟨⟨fun d hd d' hd' => ?_, ?_⟩, hl⟩, fun d hd => ?_⟩
  · obtain ⟨y, rfl⟩ := hp d hd; obtain ⟨y', rfl⟩ := hp d' hd'; rfl
  · unfold sortable
    rw [Bool.or_eq_true]
    refine .inr (List.all_eq_true.mpr fun d hd => ?_)
    obtain ⟨y, rfl⟩ := hp d hd
    rfl
  · obtain ⟨y, rfl⟩ := hp d hd
    show (0 : Nat) ≤ 60
    decide
theorem mem_sort {xs : List D} {x : D} : x ∈ sortD xs ↔ x ∈ xs := (List.mergeSort_perm xs leD).mem_iff
theorem len_sort {xs : List D} : (sortD xs).length = xs.length := (List.mergeSort_perm xs leD).length_eq
theorem sorted_str {xs : List D} (h : ∀ x ∈ xs, ∃ w, x = .str w) (hl : xs.length ≤ sizeLine) : sortedF (.lst xs) = some (.lst .fz, .lst (sortD xs)) := if_pos (sortOk_str h hl)
theorem all_str {xs : List D} {P : List Nat → Prop} (h : ∀ x ∈ xs, ∃ w, P w ∧ x = .str w) : ∃ ws : List (List Nat), xs = ws.map D.str ∧ ∀ w ∈ ws, P w := by
  induction xs with
  | nil => exact ⟨[], rfl, by simp⟩
  | cons x xs ih =>
    obtain ⟨ws, rfl, hw⟩ := ih fun y hy => h y (by simp [hy])
    obtain ⟨w, pw, rfl⟩ := h x (by simp)
    exact ⟨w :: ws, rfl, by
      intro v hv
      rcases List.mem_cons.mp hv with rfl | hv
      · exact pw
      · exact hw v hv⟩
theorem atI_some {α : Type} {xs : List α} {i : Int} (h0 : 0 ≤ i) (h1 : i < xs.length) : ∃ x ∈ xs, L2.atI xs i = some x := by
  rw [atI_nn h0]
  have : i.toNat < xs.length := by omega
  exact ⟨xs[i.toNat], List.getElem_mem _, List.getElem?_eq_getElem this⟩
theorem sizeI {i : Int} (h : i ≤ 16777216) : i ≤ (sizeLine : Int) := h
end Dt

namespace K25
open PySem PySem.Spec PyProof.Rows L2 Dt
def topS (i : Nat) : Stmt := PySem.Challenge.pw_parley_k25_order_of_behaviours.main.body.getD i (.Pass ⟨0, 0, 0, 0⟩)
abbrev s_order_key : Stmt := topS 2
abbrev N_order_key : List Str := ["behaviour", "kind", "offers"]
theorem sc_order_key : FnScope N_order_key ["behaviour"] (defScope s_order_key) := ⟨rfl, rfl, rfl, by decide +kernel, rfl, by decide +kernel, by decide +kernel⟩
abbrev s__law_cell : Stmt := topS 4
abbrev N__law_cell : List Str := ["script", "k"]
theorem sc__law_cell : FnScope N__law_cell ["script", "k"] (defScope s__law_cell) := ⟨rfl, rfl, rfl, by decide +kernel, rfl, by decide +kernel, by decide +kernel⟩
abbrev s__law_draws : Stmt := topS 5
abbrev N__law_draws : List Str := ["cell", "count", "rows", "left", "k", "mixed"]
theorem sc__law_draws : FnScope N__law_draws ["cell", "count"] (defScope s__law_draws) := ⟨rfl, rfl, rfl, by decide +kernel, rfl, by decide +kernel, by decide +kernel⟩
abbrev s__law_few : Stmt := topS 6
abbrev N__law_few : List Str := ["draw", "words", "k"]
theorem sc__law_few : FnScope N__law_few ["draw", "words"] (defScope s__law_few) := ⟨rfl, rfl, rfl, by decide +kernel, rfl, by decide +kernel, by decide +kernel⟩
abbrev s__law_key : Stmt := topS 7
abbrev N__law_key : List Str := ["behaviour", "offers", "kind"]
theorem sc__law_key : FnScope N__law_key ["behaviour"] (defScope s__law_key) := ⟨rfl, rfl, rfl, by decide +kernel, rfl, by decide +kernel, by decide +kernel⟩
abbrev s__law_words : Stmt := topS 8
abbrev N__law_words : List Str := ["draw", "most", "words", "k"]
theorem sc__law_words : FnScope N__law_words ["draw", "most"] (defScope s__law_words) := ⟨rfl, rfl, rfl, by decide +kernel, rfl, by decide +kernel, by decide +kernel⟩
abbrev s_law : Stmt := topS 9
abbrev N_law : List Str := ["script", "found", "k", "draws", "trace", "kind", "keys", "behaviour", "j", "mine", "other"]
theorem sc_law : FnScope N_law ["script"] (defScope s_law) := ⟨rfl, rfl, rfl, by decide +kernel, rfl, by decide +kernel, by decide +kernel⟩
def y_KINDS : List Str := ["trace", "divergence", "failure"]
structure Tx (K : PySem.W.Frag) (mg : Str → Option Value) (f : Nat → Addr) (fd : Nat → FuncData) (ca : Nat → Addr) : Prop where
  F0 : Fun K "order_key" "order_key" s_order_key (f 0) (fd 0)
  B0 : Binds K (fd 0) ["behaviour"] []
  g0 : mg "order_key" = some (.ref (f 0))
  F1 : Fun K "_law_cell" "_law_cell" s__law_cell (f 1) (fd 1)
  B1 : Binds K (fd 1) ["script", "k"] []
  g1 : mg "_law_cell" = some (.ref (f 1))
  F2 : Fun K "_law_draws" "_law_draws" s__law_draws (f 2) (fd 2)
  B2 : Binds K (fd 2) ["cell", "count"] []
  g2 : mg "_law_draws" = some (.ref (f 2))
  F3 : Fun K "_law_few" "_law_few" s__law_few (f 3) (fd 3)
  B3 : Binds K (fd 3) ["draw", "words"] []
  g3 : mg "_law_few" = some (.ref (f 3))
  F4 : Fun K "_law_key" "_law_key" s__law_key (f 4) (fd 4)
  B4 : Binds K (fd 4) ["behaviour"] []
  g4 : mg "_law_key" = some (.ref (f 4))
  F5 : Fun K "_law_words" "_law_words" s__law_words (f 5) (fd 5)
  B5 : Binds K (fd 5) ["draw", "most"] []
  g5 : mg "_law_words" = some (.ref (f 5))
  F6 : Fun K "law" "law" s_law (f 6) (fd 6)
  B6 : Binds K (fd 6) ["script"] []
  g6 : mg "law" = some (.ref (f 6))
  z_abs : mg "abs" = none
  z_int : mg "int" = none
  z_isinstance : mg "isinstance" = none
  z_len : mg "len" = none
  z_min : mg "min" = none
  z_range : mg "range" = none
  z_sorted : mg "sorted" = none
  z_tuple : mg "tuple" = none
  g_KINDS : mg "KINDS" = some (.ref (ca 0))
  k_KINDS : KTup K (ca 0) (y_KINDS.map V.str)
  d_KINDS : ∃ o, K.lookup (ca 0) = some o ∧ o.cls = .type "tuple" ∧ o.dict = none
def b_order_key : MS :=
(sSeq (sSet noB 1 (mFun (on1 (conIndexF (y_KINDS.map fun s => s.cps.toList))) (mArgs [(true, (mOp2 idxF true (mRef 0) true (mCon (.int 0))))])))
(sSeq (sSet noB 2 (mTup (mArgs [])))
(sSeq (sIf (mBool (mOp2 eqF true (mRef 1) true (mCon (.int 2))))
(sSeq (sSet noB 2 (mOp2 idxF true (mRef 0) true (mCon (.int 2))))
sPass)
sPass)
(sSeq (sRet (mTup (mArgs [(true, (mFun (on1 lenF) (mArgs [(true, (mOp2 idxF true (mRef 0) true (mCon (.int 1))))]))), (true, (mOp2 idxF true (mRef 0) true (mCon (.int 1)))), (false, (mFrz 1)), (true, (mFun (on1 lenF) (mArgs [(true, (mRef 2))]))), (false, (mFrz 2))])))
sPass))))
def f_order_key : Fs := fnP 1 3 noB b_order_key
def b__law_cell : MS :=
(sSeq (sIf (mBool (mOp2 ltF true (mRef 1) true (mFun (on1 lenF) (mArgs [(true, (mRef 0))]))))
(sSeq (sRet (mFun (on1 absF) (mArgs [(true, (mFun (on1 intF) (mArgs [(true, (mOp2 idxF true (mRef 0) true (mRef 1)))])))])))
sPass)
sPass)
(sSeq (sRet (mCon (.int 0)))
sPass))
def f__law_cell : Fs := fnP 2 2 noB b__law_cell
def b__law_draws : MS :=
(sSeq (sSet noB 2 (mLst .fz (mArgs [])))
(sSeq (sSet noB 3 (mFrz 0))
(sSeq (sFor noB (.nm 4) (iRng (mArgs [(true, (mRef 1))]))
(sSeq (sIf (bAnd (mBool (mOp2 geF true (mRef 0) true (mOp2 powF true (mCon (.int 10)) true (mCon (.int 18))))) (mBool (mOp2 gtF true (mRef 3) true (mCon (.int 0)))))
(sSeq (sExpr (mAppend (mArgs ((true, mRecv "list" (mRef 2)) :: [(true, (mOp2 modF true (mFun (on1 intF) (mArgs [(true, (mRef 3))])) true (mCon (.int 4096))))]))))
(sSeq (sSet noB 3 (mOp2 divF true (mRef 3) true (mCon (.int 4096))))
sPass))
(sSeq (sSet noB 5 (mOp2 modF true (mFun (on1 intF) (mArgs [(true, (mOp2 addF true (mOp2 mulF true (mRef 0) true (mCon (.int 48271))) true (mOp2 mulF true (mOp2 addF true (mRef 4) true (mCon (.int 1))) true (mCon (.int 69621)))))])) true (mCon (.int 2147483647))))
(sSeq (sSet noB 5 (mOp2 modF true (mFun (on1 intF) (mArgs [(true, (mOp2 addF true (mOp2 addF true (mOp2 mulF true (mRef 5) true (mRef 5)) true (mOp2 mulF true (mRef 5) true (mCon (.int 16807)))) true (mOp2 mulF true (mRef 4) true (mCon (.int 7919)))))])) true (mCon (.int 2147483629))))
(sSeq (sSet noB 5 (mOp2 modF true (mFun (on1 intF) (mArgs [(true, (mOp2 addF true (mOp2 addF true (mOp2 mulF true (mRef 5) true (mRef 5)) true (mRef 0)) true (mOp2 mulF true (mCon (.int 13)) true (mRef 4))))])) true (mCon (.int 2147483587))))
(sSeq (sExpr (mAppend (mArgs ((true, mRecv "list" (mRef 2)) :: [(true, (mOp2 modF true (mOp2 divF true (mRef 5) true (mCon (.int 7))) true (mCon (.int 4096))))]))))
sPass)))))
sPass))
(sSeq (sRet (mMove 2))
sPass))))
def f__law_draws : Fs := fnP 2 6 noB b__law_draws
def b__law_few : MS :=
(sSeq (sRet (mFun (on1 tupF) (mArgs [(false, (mFun (on1 sortedF) (mArgs [(false, (mLc [2] (.nm 2) (iRng (mArgs [(true, (mFun (on1 lenF) (mArgs [(true, (mRef 1))])))])) (mBool (mOp2 eqF true (mOp2 modF true (mOp2 divF true (mRef 0) true (mOp2 idxF true (mLst .fz (mArgs [(true, (mCon (.int 1))), (true, (mCon (.int 2))), (true, (mCon (.int 4))), (true, (mCon (.int 8))), (true, (mCon (.int 16))), (true, (mCon (.int 32)))])) true (mRef 2))) true (mCon (.int 2))) true (mCon (.int 1)))) (mOp2 idxF true (mRef 1) true (mRef 2)) .fz))])))])))
sPass)
def f__law_few : Fs := fnP 2 3 noB b__law_few
def b__law_key : MS :=
(sSeq (sSet noB 1 (mTup (mArgs [])))
(sSeq (sIf (mBool (mOp2 eqF true (mOp2 idxF true (mRef 0) true (mCon (.int 0))) true (mCon (.str (S "failure")))))
(sSeq (sSet noB 1 (mOp2 idxF true (mRef 0) true (mCon (.int 2))))
sPass)
sPass)
(sSeq (sSet noB 2 (mFun (on2 indexF) (mArgs ((true, mRecv "list" (mLst .fz (mArgs [(true, (mCon (.str (S "trace")))), (true, (mCon (.str (S "divergence")))), (true, (mCon (.str (S "failure"))))]))) :: [(true, (mOp2 idxF true (mRef 0) true (mCon (.int 0))))]))))
(sSeq (sRet (mTup (mArgs [(true, (mFun (on1 lenF) (mArgs [(true, (mOp2 idxF true (mRef 0) true (mCon (.int 1))))]))), (true, (mOp2 idxF true (mRef 0) true (mCon (.int 1)))), (false, (mFrz 2)), (true, (mFun (on1 lenF) (mArgs [(true, (mRef 1))]))), (false, (mFrz 1))])))
sPass))))
def f__law_key : Fs := fnP 1 3 noB b__law_key
def b__law_words : MS :=
(sSeq (sSet noB 2 (mLst .fz (mArgs [(true, (mCon (.str (S "a")))), (true, (mCon (.str (S "b")))), (true, (mCon (.str (S "tick")))), (true, (mCon (.str (S "aa")))), (true, (mCon (.str (S "b1"))))])))
(sSeq (sRet (mFun (on1 tupF) (mArgs [(false, (mLc [3] (.nm 3) (iRng (mArgs [(true, (mOp2 modF true (mOp2 divF true (mRef 0) true (mCon (.int 625))) true (mOp2 addF true (mRef 1) true (mCon (.int 1)))))])) bYes (mOp2 idxF true (mRef 2) true (mOp2 modF true (mOp2 divF true (mRef 0) true (mOp2 idxF true (mLst .fz (mArgs [(true, (mCon (.int 1))), (true, (mCon (.int 5))), (true, (mCon (.int 25))), (true, (mCon (.int 125)))])) true (mRef 3))) true (mCon (.int 5)))) .fz))])))
sPass))
def f__law_words : Fs := fnP 2 4 noB b__law_words
def b_law : MS :=
(sSeq (sSet noB 1 (mLst .fz (mArgs [])))
(sSeq (sFor noB (.nm 2) (iRng (mArgs [(true, (mFun (on2 minF) (mArgs [(true, (mCon (.int 14))), (true, (mFun (on1 lenF) (mArgs [(true, (mRef 0))])))])))]))
(sSeq (sSet noB 3 (mCall f__law_draws (mArgs [(false, (mCall f__law_cell (mArgs [(false, (mFrz 0)), (false, (mFrz 2))]))), (true, (mCon (.int 3)))])))
(sSeq (sSet noB 4 (mCall f__law_words (mArgs [(true, (mOp2 idxF true (mRef 3) true (mCon (.int 0)))), (true, (mCon (.int 3)))])))
(sSeq (sSet noB 5 (mOp2 modF true (mOp2 idxF true (mRef 3) true (mCon (.int 1))) true (mCon (.int 3))))
(sSeq (sIf (mBool (mOp2 eqF true (mRef 5) true (mCon (.int 2))))
(sSeq (sExpr (mAppend (mArgs ((true, mRecv "list" (mRef 1)) :: [(false, (mTup (mArgs [(true, (mCon (.str (S "failure")))), (false, (mFrz 4)), (false, (mCall f__law_few (mArgs [(true, (mOp2 modF true (mOp2 idxF true (mRef 3) true (mCon (.int 2))) true (mCon (.int 16)))), (true, (mLst .fz (mArgs [(true, (mCon (.str (S "a")))), (true, (mCon (.str (S "aa")))), (true, (mCon (.str (S "b")))), (true, (mCon (.str (S "tick"))))])))])))])))]))))
sPass)
(sSeq (sExpr (mAppend (mArgs ((true, mRecv "list" (mRef 1)) :: [(false, (mTup (mArgs [(true, (mOp2 idxF true (mLst .fz (mArgs [(true, (mCon (.str (S "trace")))), (true, (mCon (.str (S "divergence"))))])) true (mRef 5))), (false, (mFrz 4))])))]))))
sPass))
sPass)))))
(sSeq (sSet noB 6 (mLc [7] (.nm 7) (iSeq (mFrz 1)) bYes (mCall f_order_key (mArgs [(false, (mFrz 7))])) .fz))
(sSeq (sFor noB (.nm 2) (iRng (mArgs [(true, (mFun (on1 lenF) (mArgs [(true, (mRef 1))])))]))
(sSeq (sFor noB (.nm 8) (iRng (mArgs [(true, (mFun (on1 lenF) (mArgs [(true, (mRef 1))])))]))
(sSeq (sSet noB 9 (mCall f__law_key (mArgs [(true, (mOp2 idxF true (mRef 1) true (mRef 2)))])))
(sSeq (sSet noB 10 (mCall f__law_key (mArgs [(true, (mOp2 idxF true (mRef 1) true (mRef 8)))])))
(sSeq (sIf (bOr (mBool (mOp2 neF true (mOp2 ltF true (mOp2 idxF true (mRef 6) true (mRef 2)) true (mOp2 idxF true (mRef 6) true (mRef 8))) true (mOp2 ltF true (mRef 9) true (mRef 10)))) (mBool (mOp2 neF true (mOp2 eqF true (mOp2 idxF true (mRef 6) true (mRef 2)) true (mOp2 idxF true (mRef 6) true (mRef 8))) true (mOp2 eqF true (mOp2 idxF true (mRef 1) true (mRef 2)) true (mOp2 idxF true (mRef 1) true (mRef 8))))))
(sSeq (sRet (mCon (.bl false)))
sPass)
sPass)
(sSeq (sIf (bNot (mBool (mFun (on2 isiF) (mArgs [(true, (mOp2 idxF true (mRef 6) true (mRef 2))), (true, (mCon (.ty "tuple")))]))))
(sSeq (sRet (mCon (.bl false)))
sPass)
sPass)
sPass)))))
sPass))
(sSeq (sRet (mCon (.bl true)))
sPass)))))
def f_law : Fs := fnP 1 11 noB b_law
section
variable {P : Program} {w : World} {mg : Str → Option Value} {base : Heap} {G : Gm} {f : Nat → Addr} {fd : Nat → FuncData} {ca : Nat → Addr}
theorem ok_order_key (T : Tx G.K mg f fd ca) : FnOk P w G.K mg base (L2.CX P w) 1 (f 0) (fd 0) ["behaviour"] (spF G f_order_key) := by
  refine fn_p T.F0 sc_order_key rfl rfl fun cdv A outer s H E hr => ?_
  unfold b_order_key
  exact (pss_mcons (s_set (i := 1) sc_order_key.nd (m_conIndex (ys := y_KINDS) rfl rfl T.g_KINDS T.k_KINDS T.d_KINDS (o_idx rfl (ir 0) pe_mint (fun _ _ => rfl))))
(pss_mcons (s_set (i := 2) sc_order_key.nd (pe_mtup pn))
(pss_mcons (ps_mif (t_eq rfl hr.units (ir 1) pe_mint rfl)
(pss_mcons (s_set (i := 2) sc_order_key.nd (o_idx rfl (ir 0) pe_mint (fun _ _ => rfl)))
pss_mnil)
pss_mnil)
(pss_mcons (ps_mret (pe_mtup (pc (f_len rfl rfl T.z_len (pc (o_idx rfl (ir 0) pe_mint (fun _ _ => rfl)) pn) rfl rfl) (pc (o_idx rfl (ir 0) pe_mint (fun _ _ => rfl)) (pc (iz 1) (pc (f_len rfl rfl T.z_len (pc (ir 2) pn) rfl rfl) (pc (iz 2) pn)))))))
pss_mnil))))
theorem ok__law_cell (T : Tx G.K mg f fd ca) : FnOk P w G.K mg base (L2.CX P w) 1 (f 1) (fd 1) ["script", "k"] (spF G f__law_cell) := by
  refine fn_p T.F1 sc__law_cell rfl rfl fun cdv A outer s H E hr => ?_
  unfold b__law_cell
  exact (pss_mcons (ps_mif (t_lt rfl hr.units (ir 1) (f_len rfl rfl T.z_len (pc (ir 0) pn) rfl rfl) rfl)
(pss_mcons (ps_mret (f_abs rfl T.z_abs (pc (f_int rfl T.z_int (pc (o_idx rfl (ir 0) (ir 1) (fun _ _ => rfl)) pn) rfl rfl) pn) rfl rfl))
pss_mnil)
pss_mnil)
(pss_mcons (ps_mret pe_mint)
pss_mnil))
theorem ok__law_draws (T : Tx G.K mg f fd ca) : FnOk P w G.K mg base (L2.CX P w) 1 (f 2) (fd 2) ["cell", "count"] (spF G f__law_draws) := by
  refine fn_p T.F2 sc__law_draws rfl rfl fun cdv A outer s H E hr => ?_
  unfold b__law_draws
  exact (pss_mcons (s_set (i := 2) sc__law_draws.nd (pe_mlst pn))
(pss_mcons (s_set (i := 3) sc__law_draws.nd (iz 0))
(pss_mcons (s_for (L2.passes_of rfl) rfl (i_rng1 rfl T.z_range (ir 1)) (g_nm (i := 4) sc__law_draws.nd)
(pss_mcons (ps_mif (L2.PW.pt (pw_mand (t_ge (ir 0) (o_pow pe_mint pe_mint) rfl) (pw_mand1 (t_gt (ir 3) pe_mint rfl))))
(pss_mcons (s_expr (m_append rfl (ir 2) (pc (o_mod (f_int rfl T.z_int (pc (ir 3) pn) rfl rfl) pe_mint) pn)))
(pss_mcons (s_set (i := 3) sc__law_draws.nd (o_div (ir 3) pe_mint))
pss_mnil))
(pss_mcons (s_set (i := 5) sc__law_draws.nd (o_mod (f_int rfl T.z_int (pc (o_add rfl (o_mul (ir 0) pe_mint) (o_mul (o_add rfl (ir 4) pe_mint) pe_mint)) pn) rfl rfl) pe_mint))
(pss_mcons (s_set (i := 5) sc__law_draws.nd (o_mod (f_int rfl T.z_int (pc (o_add rfl (o_add rfl (o_mul (ir 5) (ir 5)) (o_mul (ir 5) pe_mint)) (o_mul (ir 4) pe_mint)) pn) rfl rfl) pe_mint))
(pss_mcons (s_set (i := 5) sc__law_draws.nd (o_mod (f_int rfl T.z_int (pc (o_add rfl (o_add rfl (o_mul (ir 5) (ir 5)) (ir 0)) (o_mul pe_mint (ir 4))) pn) rfl rfl) pe_mint))
(pss_mcons (s_expr (m_append rfl (ir 2) (pc (o_mod (o_div (ir 5) pe_mint) pe_mint) pn)))
pss_mnil)))))
pss_mnil))
(pss_mcons (ps_mret (im 2))
pss_mnil))))
theorem ok__law_few (T : Tx G.K mg f fd ca) : FnOk P w G.K mg base (L2.CX P w) 1 (f 3) (fd 3) ["draw", "words"] (spF G f__law_few) := by
  refine fn_p T.F3 sc__law_few rfl rfl fun cdv A outer s H E hr => ?_
  unfold b__law_few
  exact (pss_mcons (ps_mret (f_tuple rfl rfl T.z_tuple (pc (f_sorted rfl hr.units rfl T.z_sorted (pc (e_lc rfl sc__law_few.nd (i_rng1 rfl T.z_range (f_len rfl rfl T.z_len (pc (ir 1) pn) rfl rfl)) (blkOk_by (N := N__law_few) (sc := defScope s__law_few) (own := [("k", 2)]) (by decide +kernel)) (fun _ _ _ _ _ => (g_nm (i := 2) sc__law_few.nd)) (fun _ _ _ _ _ => (ifs_1 (t_eq rfl hr.units (o_mod (o_div (ir 0) (o_idx rfl (pe_mlst (pc pe_mint (pc pe_mint (pc pe_mint (pc pe_mint (pc pe_mint (pc pe_mint pn))))))) (ir 2) (fun _ _ => rfl))) pe_mint) pe_mint rfl))) (fun _ _ _ _ _ => (o_idx rfl (ir 1) (ir 2) (fun _ _ => rfl))) (by decide) (by decide) rfl) pn) rfl rfl) pn) rfl rfl))
pss_mnil)
theorem ok__law_key (T : Tx G.K mg f fd ca) : FnOk P w G.K mg base (L2.CX P w) 1 (f 4) (fd 4) ["behaviour"] (spF G f__law_key) := by
  refine fn_p T.F4 sc__law_key rfl rfl fun cdv A outer s H E hr => ?_
  unfold b__law_key
  exact (pss_mcons (s_set (i := 1) sc__law_key.nd (pe_mtup pn))
(pss_mcons (ps_mif (t_eq rfl hr.units (o_idx rfl (ir 0) pe_mint (fun _ _ => rfl)) pe_mstr rfl)
(pss_mcons (s_set (i := 1) sc__law_key.nd (o_idx rfl (ir 0) pe_mint (fun _ _ => rfl)))
pss_mnil)
pss_mnil)
(pss_mcons (s_set (i := 2) sc__law_key.nd (m_index rfl (room65 hr) (pe_mlst (pc pe_mstr (pc pe_mstr (pc pe_mstr pn)))) (pc (o_idx rfl (ir 0) pe_mint (fun _ _ => rfl)) pn)))
(pss_mcons (ps_mret (pe_mtup (pc (f_len rfl rfl T.z_len (pc (o_idx rfl (ir 0) pe_mint (fun _ _ => rfl)) pn) rfl rfl) (pc (o_idx rfl (ir 0) pe_mint (fun _ _ => rfl)) (pc (iz 2) (pc (f_len rfl rfl T.z_len (pc (ir 1) pn) rfl rfl) (pc (iz 1) pn)))))))
pss_mnil))))
theorem ok__law_words (T : Tx G.K mg f fd ca) : FnOk P w G.K mg base (L2.CX P w) 1 (f 5) (fd 5) ["draw", "most"] (spF G f__law_words) := by
  refine fn_p T.F5 sc__law_words rfl rfl fun cdv A outer s H E hr => ?_
  unfold b__law_words
  exact (pss_mcons (s_set (i := 2) sc__law_words.nd (pe_mlst (pc pe_mstr (pc pe_mstr (pc pe_mstr (pc pe_mstr (pc pe_mstr pn)))))))
(pss_mcons (ps_mret (f_tuple rfl rfl T.z_tuple (pc (e_lc rfl sc__law_words.nd (i_rng1 rfl T.z_range (o_mod (o_div (ir 0) pe_mint) (o_add rfl (ir 1) pe_mint))) (blkOk_by (N := N__law_words) (sc := defScope s__law_words) (own := [("k", 3)]) (by decide +kernel)) (fun _ _ _ _ _ => (g_nm (i := 3) sc__law_words.nd)) (fun _ _ _ _ _ => ifs_0) (fun _ _ _ _ _ => (o_idx rfl (ir 2) (o_mod (o_div (ir 0) (o_idx rfl (pe_mlst (pc pe_mint (pc pe_mint (pc pe_mint (pc pe_mint pn))))) (ir 3) (fun _ _ => rfl))) pe_mint) (fun _ _ => rfl))) (by decide) (by decide) rfl) pn) rfl rfl))
pss_mnil))
theorem ok_law (T : Tx G.K mg f fd ca) : FnOk P w G.K mg base (L2.CX P w) 2 (f 6) (fd 6) ["script"] (spF G f_law) := by
  refine fn_p T.F6 sc_law rfl rfl fun cdv A outer s H E hr => ?_
  unfold b_law
  exact (pss_mcons (s_set (i := 1) sc_law.nd (pe_mlst pn))
(pss_mcons (s_for (L2.passes_of rfl) rfl (i_rng1 rfl T.z_range (f_min rfl rfl T.z_min (pc pe_mint (pc (f_len rfl rfl T.z_len (pc (ir 0) pn) rfl rfl) pn)) rfl rfl)) (g_nm (i := 2) sc_law.nd)
(pss_mcons (s_set (i := 3) sc_law.nd (f_call fnP_len rfl (ok__law_draws T) (hr.mono (by decide)) T.g2 T.F2.kp T.B2 takes_fn (pc (f_call fnP_len rfl (ok__law_cell T) (hr.mono (by decide)) T.g1 T.F1.kp T.B1 takes_fn (pc (iz 0) (pc (iz 2) pn))) (pc pe_mint pn))))
(pss_mcons (s_set (i := 4) sc_law.nd (f_call fnP_len rfl (ok__law_words T) (hr.mono (by decide)) T.g5 T.F5.kp T.B5 takes_fn (pc (o_idx rfl (ir 3) pe_mint (fun _ _ => rfl)) (pc pe_mint pn))))
(pss_mcons (s_set (i := 5) sc_law.nd (o_mod (o_idx rfl (ir 3) pe_mint (fun _ _ => rfl)) pe_mint))
(pss_mcons (ps_mif (t_eq rfl hr.units (ir 5) pe_mint rfl)
(pss_mcons (s_expr (m_append rfl (ir 1) (pc (pe_mtup (pc pe_mstr (pc (iz 4) (pc (f_call fnP_len rfl (ok__law_few T) (hr.mono (by decide)) T.g3 T.F3.kp T.B3 takes_fn (pc (o_mod (o_idx rfl (ir 3) pe_mint (fun _ _ => rfl)) pe_mint) (pc (pe_mlst (pc pe_mstr (pc pe_mstr (pc pe_mstr (pc pe_mstr pn))))) pn))) pn)))) pn)))
pss_mnil)
(pss_mcons (s_expr (m_append rfl (ir 1) (pc (pe_mtup (pc (o_idx rfl (pe_mlst (pc pe_mstr (pc pe_mstr pn))) (ir 5) (fun _ _ => rfl)) (pc (iz 4) pn))) pn)))
pss_mnil))
pss_mnil)))))
(pss_mcons (s_lc (i := 6) rfl sc_law.nd (pi_mseq rfl (iz 1)) (blkOk_by (N := N_law) (sc := defScope s_law) (own := [("behaviour", 7)]) (by decide +kernel)) (fun _ _ _ _ _ => (g_nm (i := 7) sc_law.nd)) (fun _ _ _ _ _ => ifs_0) (fun _ _ _ _ _ => (f_call fnP_len rfl (ok_order_key T) (hr.mono (by decide)) T.g0 T.F0.kp T.B0 takes_0 (pc (iz 7) pn))) rfl rfl (by decide +kernel) (by decide) (by decide) rfl)
(pss_mcons (s_for (L2.passes_of rfl) rfl (i_rng1 rfl T.z_range (f_len rfl rfl T.z_len (pc (ir 1) pn) rfl rfl)) (g_nm (i := 2) sc_law.nd)
(pss_mcons (s_for (L2.passes_of rfl) rfl (i_rng1 rfl T.z_range (f_len rfl rfl T.z_len (pc (ir 1) pn) rfl rfl)) (g_nm (i := 8) sc_law.nd)
(pss_mcons (s_set (i := 9) sc_law.nd (f_call fnP_len rfl (ok__law_key T) (hr.mono (by decide)) T.g4 T.F4.kp T.B4 takes_fn (pc (o_idx rfl (ir 1) (ir 2) (fun _ _ => rfl)) pn)))
(pss_mcons (s_set (i := 10) sc_law.nd (f_call fnP_len rfl (ok__law_key T) (hr.mono (by decide)) T.g4 T.F4.kp T.B4 takes_fn (pc (o_idx rfl (ir 1) (ir 8) (fun _ _ => rfl)) pn)))
(pss_mcons (ps_mif (L2.PW.pt (pw_mor (t_ne rfl hr.units (c_lt rfl hr.units (o_idx rfl (ir 6) (ir 2) (fun _ _ => rfl)) (o_idx rfl (ir 6) (ir 8) (fun _ _ => rfl)) rfl) (c_lt rfl hr.units (ir 9) (ir 10) rfl) rfl) (pw_mor1 (t_ne rfl hr.units (c_eq rfl hr.units (o_idx rfl (ir 6) (ir 2) (fun _ _ => rfl)) (o_idx rfl (ir 6) (ir 8) (fun _ _ => rfl)) rfl) (c_eq rfl hr.units (o_idx rfl (ir 1) (ir 2) (fun _ _ => rfl)) (o_idx rfl (ir 1) (ir 8) (fun _ _ => rfl)) rfl) rfl))))
(pss_mcons (ps_mret pe_mbl)
pss_mnil)
pss_mnil)
(pss_mcons (ps_mif (pt_mnot (tv (f_isinstance rfl rfl T.z_isinstance (pc (o_idx rfl (ir 6) (ir 2) (fun _ _ => rfl)) (pc (pe_mtyv rfl T.z_tuple (by decide +kernel) (by decide) (by decide)) pn)) rfl rfl)))
(pss_mcons (ps_mret pe_mbl)
pss_mnil)
pss_mnil)
pss_mnil)))))
pss_mnil))
(pss_mcons (ps_mret pe_mbl)
pss_mnil)))))
end
theorem all_mk {P : Program} {w : World} {K : PySem.W.Frag} {h : Heap} {mg : Str → Option Value} {fa : Addr} {f0 : Addr} {oc0 kV0 dc0 pm0 cd0 ct0 : Value} {od0 an0 : Option Addr} {sl0 : Array (Option Value)}
    {f1 : Addr} {oc1 kV1 dc1 pm1 cd1 ct1 : Value} {od1 an1 : Option Addr} {sl1 : Array (Option Value)}
    {f2 : Addr} {oc2 kV2 dc2 pm2 cd2 ct2 : Value} {od2 an2 : Option Addr} {sl2 : Array (Option Value)}
    {f3 : Addr} {oc3 kV3 dc3 pm3 cd3 ct3 : Value} {od3 an3 : Option Addr} {sl3 : Array (Option Value)}
    {f4 : Addr} {oc4 kV4 dc4 pm4 cd4 ct4 : Value} {od4 an4 : Option Addr} {sl4 : Array (Option Value)}
    {f5 : Addr} {oc5 kV5 dc5 pm5 cd5 ct5 : Value} {od5 an5 : Option Addr} {sl5 : Array (Option Value)}
    {f6 : Addr} {oc6 kV6 dc6 pm6 cd6 ct6 : Value} {od6 an6 : Option Addr} {sl6 : Array (Option Value)}
    {ca0 : Addr} {tk0_0 tk0_1 tk0_2 : Tok} {nn0 : Nat} {csl0 : Array (Option Value)}
    (X : K.In h) (G : h.Ns mainGlobals mg) (hfa : mg "law" = some (.ref fa))
    (a0 : PySem.W.nsIn K mainGlobals "order_key" = some (some (.ref f0)))
    (l0 : K.lookup f0 = some ⟨oc0, od0, .func (PySem.W.fnOf "order_key" "order_key" (defArgs s_order_key) (defBody s_order_key) (defScope s_order_key) .none kV0 dc0 pm0 an0 cd0 ct0), sl0⟩)
    (c0 : PySem.W.codeIn K cd0 "order_key" = true)
    (k0 : PySem.W.keepIn K (.ref f0) = true)
    (a1 : PySem.W.nsIn K mainGlobals "_law_cell" = some (some (.ref f1)))
    (l1 : K.lookup f1 = some ⟨oc1, od1, .func (PySem.W.fnOf "_law_cell" "_law_cell" (defArgs s__law_cell) (defBody s__law_cell) (defScope s__law_cell) .none kV1 dc1 pm1 an1 cd1 ct1), sl1⟩)
    (c1 : PySem.W.codeIn K cd1 "_law_cell" = true)
    (k1 : PySem.W.keepIn K (.ref f1) = true)
    (a2 : PySem.W.nsIn K mainGlobals "_law_draws" = some (some (.ref f2)))
    (l2 : K.lookup f2 = some ⟨oc2, od2, .func (PySem.W.fnOf "_law_draws" "_law_draws" (defArgs s__law_draws) (defBody s__law_draws) (defScope s__law_draws) .none kV2 dc2 pm2 an2 cd2 ct2), sl2⟩)
    (c2 : PySem.W.codeIn K cd2 "_law_draws" = true)
    (k2 : PySem.W.keepIn K (.ref f2) = true)
    (a3 : PySem.W.nsIn K mainGlobals "_law_few" = some (some (.ref f3)))
    (l3 : K.lookup f3 = some ⟨oc3, od3, .func (PySem.W.fnOf "_law_few" "_law_few" (defArgs s__law_few) (defBody s__law_few) (defScope s__law_few) .none kV3 dc3 pm3 an3 cd3 ct3), sl3⟩)
    (c3 : PySem.W.codeIn K cd3 "_law_few" = true)
    (k3 : PySem.W.keepIn K (.ref f3) = true)
    (a4 : PySem.W.nsIn K mainGlobals "_law_key" = some (some (.ref f4)))
    (l4 : K.lookup f4 = some ⟨oc4, od4, .func (PySem.W.fnOf "_law_key" "_law_key" (defArgs s__law_key) (defBody s__law_key) (defScope s__law_key) .none kV4 dc4 pm4 an4 cd4 ct4), sl4⟩)
    (c4 : PySem.W.codeIn K cd4 "_law_key" = true)
    (k4 : PySem.W.keepIn K (.ref f4) = true)
    (a5 : PySem.W.nsIn K mainGlobals "_law_words" = some (some (.ref f5)))
    (l5 : K.lookup f5 = some ⟨oc5, od5, .func (PySem.W.fnOf "_law_words" "_law_words" (defArgs s__law_words) (defBody s__law_words) (defScope s__law_words) .none kV5 dc5 pm5 an5 cd5 ct5), sl5⟩)
    (c5 : PySem.W.codeIn K cd5 "_law_words" = true)
    (k5 : PySem.W.keepIn K (.ref f5) = true)
    (a6 : PySem.W.nsIn K mainGlobals "law" = some (some (.ref f6)))
    (l6 : K.lookup f6 = some ⟨oc6, od6, .func (PySem.W.fnOf "law" "law" (defArgs s_law) (defBody s_law) (defScope s_law) .none kV6 dc6 pm6 an6 cd6 ct6), sl6⟩)
    (c6 : PySem.W.codeIn K cd6 "law" = true)
    (k6 : PySem.W.keepIn K (.ref f6) = true)
    (z_abs : PySem.W.nsIn K mainGlobals "abs" = some none)
    (z_int : PySem.W.nsIn K mainGlobals "int" = some none)
    (z_isinstance : PySem.W.nsIn K mainGlobals "isinstance" = some none)
    (z_len : PySem.W.nsIn K mainGlobals "len" = some none)
    (z_min : PySem.W.nsIn K mainGlobals "min" = some none)
    (z_range : PySem.W.nsIn K mainGlobals "range" = some none)
    (z_sorted : PySem.W.nsIn K mainGlobals "sorted" = some none)
    (z_tuple : PySem.W.nsIn K mainGlobals "tuple" = some none)
    (ga0 : PySem.W.nsIn K mainGlobals "KINDS" = some (some (.ref ca0)))
    (gl0 : K.lookup ca0 = some ⟨.type "tuple", none, .seq #[.str "trace" tk0_0, .str "divergence" tk0_1, .str "failure" tk0_2] nn0, csl0⟩)
    : ∃ fd : FuncData, (∀ s v, BindsTo s fd ⟨[v], []⟩ [("script", v)]) ∧ ∀ base : Heap, K.In base → base.Ns mainGlobals mg → FnOk P w K mg base (L2.CX P w) 2 fa fd ["script"] (spF ⟨K, w, fun _ => 0, fun _ => ""⟩ f_law) := by
  have F0 := fun_mk (st := s_order_key) l0 c0 k0
  have F1 := fun_mk (st := s__law_cell) l1 c1 k1
  have F2 := fun_mk (st := s__law_draws) l2 c2 k2
  have F3 := fun_mk (st := s__law_few) l3 c3 k3
  have F4 := fun_mk (st := s__law_key) l4 c4 k4
  have F5 := fun_mk (st := s__law_words) l5 c5 k5
  have F6 := fun_mk (st := s_law) l6 c6 k6
  have T : Tx K mg (fun i => ([f0, f1, f2, f3, f4, f5, f6] : List Addr).getD i 0) (fun i => ([PySem.W.fnOf "order_key" "order_key" (defArgs s_order_key) (defBody s_order_key) (defScope s_order_key) .none kV0 dc0 pm0 an0 cd0 ct0, PySem.W.fnOf "_law_cell" "_law_cell" (defArgs s__law_cell) (defBody s__law_cell) (defScope s__law_cell) .none kV1 dc1 pm1 an1 cd1 ct1, PySem.W.fnOf "_law_draws" "_law_draws" (defArgs s__law_draws) (defBody s__law_draws) (defScope s__law_draws) .none kV2 dc2 pm2 an2 cd2 ct2, PySem.W.fnOf "_law_few" "_law_few" (defArgs s__law_few) (defBody s__law_few) (defScope s__law_few) .none kV3 dc3 pm3 an3 cd3 ct3, PySem.W.fnOf "_law_key" "_law_key" (defArgs s__law_key) (defBody s__law_key) (defScope s__law_key) .none kV4 dc4 pm4 an4 cd4 ct4, PySem.W.fnOf "_law_words" "_law_words" (defArgs s__law_words) (defBody s__law_words) (defScope s__law_words) .none kV5 dc5 pm5 an5 cd5 ct5, PySem.W.fnOf "law" "law" (defArgs s_law) (defBody s_law) (defScope s_law) .none kV6 dc6 pm6 an6 cd6 ct6] : List FuncData).getD i (PySem.W.fnOf "" "" (defArgs s_law) (defBody s_law) (defScope s_law) .none .none .none .none none .none .none)) (fun i => ([ca0] : List Addr).getD i 0) := {
    F0 := F0
    B0 := F0.binds (ps := ["behaviour"]) fun _ _ _ _ _ _ us hl => match us, hl with | [_], _ => rfl
    g0 := PySem.W.mg_of X G a0
    F1 := F1
    B1 := F1.binds (ps := ["script", "k"]) fun _ _ _ _ _ _ us hl => match us, hl with | [_, _], _ => rfl
    g1 := PySem.W.mg_of X G a1
    F2 := F2
    B2 := F2.binds (ps := ["cell", "count"]) fun _ _ _ _ _ _ us hl => match us, hl with | [_, _], _ => rfl
    g2 := PySem.W.mg_of X G a2
    F3 := F3
    B3 := F3.binds (ps := ["draw", "words"]) fun _ _ _ _ _ _ us hl => match us, hl with | [_, _], _ => rfl
    g3 := PySem.W.mg_of X G a3
    F4 := F4
    B4 := F4.binds (ps := ["behaviour"]) fun _ _ _ _ _ _ us hl => match us, hl with | [_], _ => rfl
    g4 := PySem.W.mg_of X G a4
    F5 := F5
    B5 := F5.binds (ps := ["draw", "most"]) fun _ _ _ _ _ _ us hl => match us, hl with | [_, _], _ => rfl
    g5 := PySem.W.mg_of X G a5
    F6 := F6
    B6 := F6.binds (ps := ["script"]) fun _ _ _ _ _ _ us hl => match us, hl with | [_], _ => rfl
    g6 := PySem.W.mg_of X G a6
    z_abs := PySem.W.mg_none_of X G z_abs
    z_int := PySem.W.mg_none_of X G z_int
    z_isinstance := PySem.W.mg_none_of X G z_isinstance
    z_len := PySem.W.mg_none_of X G z_len
    z_min := PySem.W.mg_none_of X G z_min
    z_range := PySem.W.mg_none_of X G z_range
    z_sorted := PySem.W.mg_none_of X G z_sorted
    z_tuple := PySem.W.mg_none_of X G z_tuple
    g_KINDS := PySem.W.mg_of X G ga0
    k_KINDS := ⟨_, _, _, gl0, rfl, rfl, (by decide : 3 ≤ sizeLine), (.cons ⟨_, rfl⟩ (.cons ⟨_, rfl⟩ (.cons ⟨_, rfl⟩ .nil)))⟩
    d_KINDS := ⟨_, gl0, rfl, rfl⟩
  }
  have e := hfa.symm.trans T.g6
  cases e
  exact ⟨_, fun s v => .of_eq rfl, fun base _ _ => ok_law (G := ⟨K, w, fun _ => 0, fun _ => ""⟩) T⟩
end K25

namespace K25
open Dt
def cellI (ns : List Int) (k : Nat) : Int := if k < ns.length then if ns[k]?.getD 0 < 0 then - ns[k]?.getD 0 else ns[k]?.getD 0 else 0
theorem cell_nn (ns : List Int) (k : Nat) : 0 ≤ cellI ns k := by
  unfold cellI
  repeat' split
  all_goals omega
theorem run_cell (ns : List Int) (k : Nat) : f__law_cell [(.fz, .lst (ns.map D.int)), (.fz, .int k)] = some (.ok (.fz, .int (cellI ns k)), [none, none]) := of_ef (by
  refine Ef.fn rfl (by decide) ?_
  unfold b__law_cell
  simp [cellI]
  by_cases hk : k < ns.length
  · simp [hk]
  · simp [hk])
def Draw (d : Int) : Prop := 0 ≤ d ∧ d < 4096
theorem small_len {α : Type} {ds : List α} (h : ds.length ≤ 3) : ds.length < PySem.sizeLine := Nat.lt_of_le_of_lt h (by decide)
theorem draw_mod (l : Int) : Draw (l % 4096) := ⟨Int.emod_nonneg _ (by decide), Int.emod_lt_of_pos _ (by decide)⟩
theorem run_draws (c : Int) (hc : 0 ≤ c) : ∃ x y z, Draw x ∧ Draw y ∧ Draw z ∧ f__law_draws [(.fz, .int c), (.fz, .int 3)] = some (.ok (.lst .fz, .lst [.int x, .int y, .int z]), [none, none]) := by
  have h : Ef f__law_draws [(.fz, .int c), (.fz, .int 3)] noX fun sh d xs => ∃ ds : List Int, ds.length = 3 ∧ (∀ d ∈ ds, Draw d) ∧ sh = .lst .fz ∧ d = .lst (ds.map D.int) ∧ xs = [none, none] := by
    refine Ef.fn rfl (by decide) ?_
    unfold b__law_draws
    simp
    refine ev_forN (fun k S => ∃ (ds : List Int) (l : Int) (x4 x5 : Slot), ds.length = k ∧ (∀ d ∈ ds, Draw d) ∧ 0 ≤ l ∧ S = [some (.fz, .int c), some (.fz, .int 3), some (.lst .fz, .lst (ds.map D.int)), some (.fz, .int l), x4, x5]) (k0 := 0) ?_ ?_ ?_
    · exact ⟨[], c, none, none, rfl, by simp, hc, rfl⟩
    · intro k d S hd ⟨ds, l, x4, x5, hk, hds, hl, hS⟩
      simp at hd
      obtain ⟨hk3, rfl⟩ := hd
      subst hS
      refine ⟨_, rfl, ?_⟩
      have hz := small_len (ds := ds) (by omega)
      have push : ∀ v : Int, Draw v → ∀ d ∈ ds ++ [v], Draw d := fun v hv d hd => by
        rcases List.mem_append.mp hd with h | h
        · exact hds d h
        · simp at h; subst h; exact hv
      refine ev_cut (fun S' => ∃ (ds : List Int) (l : Int) (x4 x5 : Slot), ds.length = k + 1 ∧ (∀ d ∈ ds, Draw d) ∧ 0 ≤ l ∧ S' = [some (.fz, .int c), some (.fz, .int 3), some (.lst .fz, .lst (ds.map D.int)), some (.fz, .int l), x4, x5]) ?_ ?_
      · refine ev_two ?_ ?_ ?_
        · simp
        · simp [hz]
          exact ⟨ds ++ [l % 4096], by simp; omega, push _ (draw_mod l), Int.ediv_nonneg hl (by decide), by simp⟩
        · refine ev_cut (fun S' => ∃ v : Int, 0 ≤ v ∧ v < 2147483648 ∧ S' = [some (.fz, .int c), some (.fz, .int 3), some (.lst .fz, .lst (ds.map D.int)), some (.fz, .int l), some (.fz, .int k), some (.fz, .int v)]) ?_ ?_
          · simp
            omega
          · intro S' ⟨v, v0, v1, hS'⟩
            subst hS'
            have hm : -18446744073709551616 < v ∧ v < 18446744073709551616 := ⟨by omega, by omega⟩
            refine ev_cut (fun S' => ∃ v : Int, 0 ≤ v ∧ v < 2147483648 ∧ S' = [some (.fz, .int c), some (.fz, .int 3), some (.lst .fz, .lst (ds.map D.int)), some (.fz, .int l), some (.fz, .int k), some (.fz, .int v)]) ?_ ?_
            · simp [hm]
              exact ⟨Int.emod_nonneg _ (by decide), Int.lt_trans (Int.emod_lt_of_pos _ (by decide)) (by decide)⟩
            · intro S' ⟨v, v0, v1, hS'⟩
              subst hS'
              have hm : -18446744073709551616 < v ∧ v < 18446744073709551616 := ⟨by omega, by omega⟩
              refine ev_cut (fun S' => ∃ v : Int, 0 ≤ v ∧ v < 2147483648 ∧ S' = [some (.fz, .int c), some (.fz, .int 3), some (.lst .fz, .lst (ds.map D.int)), some (.fz, .int l), some (.fz, .int k), some (.fz, .int v)]) ?_ ?_
              · simp [hm]
                exact ⟨Int.emod_nonneg _ (by decide), Int.lt_trans (Int.emod_lt_of_pos _ (by decide)) (by decide)⟩
              · intro S' ⟨v, v0, v1, hS'⟩
                subst hS'
                simp [hz]
                exact ⟨ds ++ [v / 7 % 4096], by simp; omega, push _ (draw_mod _), hl, by simp⟩
      · intro S1 ⟨ds, l, x4, x5, hk, hds, hl, hS⟩
        subst hS
        simp
        exact ⟨ds, by omega, hds, hl, rfl⟩
    · intro S ⟨ds, l, x4, x5, hk, hds, hl, hS⟩
      subst hS
      simp at hk
      simp
      exact ⟨ds, hk, hds, rfl⟩
  obtain ⟨_, _, xs, e, ds, hl, hd, rfl, rfl, rfl⟩ := h.ok
  match ds, hl, hd with
  | [x, y, z], _, hd => exact ⟨x, y, z, hd x (by simp), hd y (by simp), hd z (by simp), e⟩

theorem words_ok (d : Int) (hd : Draw d) : ∃ ws : List (List Nat), (∀ w ∈ ws, okS w = true) ∧ ws.length ≤ 3 ∧ f__law_words [(.fz, .int d), (.fz, .int 3)] = some (.ok (.fz, .tup (ws.map D.str)), [none, none]) := by
  have h : Ef f__law_words [(.fz, .int d), (.fz, .int 3)] noX fun sh d xs => ∃ ws : List (List Nat), (∀ w ∈ ws, okS w = true) ∧ ws.length ≤ 3 ∧ sh = .fz ∧ d = .tup (ws.map D.str) ∧ xs = [none, none] := by
    refine Ef.fn rfl (by decide) ?_
    unfold b__law_words
    obtain ⟨d0, d1⟩ := hd
    have n0 : 0 ≤ d / 625 % 4 := Int.emod_nonneg _ (by decide)
    have n1 : d / 625 % 4 < 4 := Int.emod_lt_of_pos _ (by decide)
    simp
    refine ev_lcE (fun x => ∃ w, okS w = true ∧ x = .str w) ?_
    simp
    refine ⟨by omega, sizeI (by omega), fun x hx => ?_, fun xs hxs hl => ?_⟩
    · obtain ⟨k, hk, rfl⟩ := mem_range.mp hx
      have : k = 0 ∨ k = 1 ∨ k = 2 := by omega
      have pick : ∀ i : Int, ∃ w, okS w = true ∧ L2.atI [D.str (S "a"), D.str (S "b"), D.str (S "tick"), D.str (S "aa"), D.str (S "b1")] (i % 5) = some (.str w) := fun i => by
        obtain ⟨x, hx, e⟩ := atI_some (xs := [D.str (S "a"), D.str (S "b"), D.str (S "tick"), D.str (S "aa"), D.str (S "b1")]) (i := i % 5) (Int.emod_nonneg _ (by decide)) (Int.emod_lt_of_pos _ (by decide))
        simp only [List.mem_cons, List.not_mem_nil, or_false] at hx
        rcases hx with rfl | rfl | rfl | rfl | rfl
        all_goals exact ⟨_, by decide +kernel, e⟩
      rcases this with rfl | rfl | rfl
      · obtain ⟨w, hw, e⟩ := pick (d / 1)
        simp at e
        simp [e, hw]
      · obtain ⟨w, hw, e⟩ := pick (d / 5)
        simp [e, hw]
      · obtain ⟨w, hw, e⟩ := pick (d / 25)
        simp [e, hw]
    · obtain ⟨ws, rfl, hw⟩ := all_str (P := fun w => okS w = true) hxs
      exact ⟨ws, hw, by simp at hl; omega, rfl⟩
  obtain ⟨_, _, xs, e, ws, h1, h2, rfl, rfl, rfl⟩ := h.ok
  exact ⟨ws, h1, h2, e⟩
theorem few_ok (d : Int) (hd : 0 ≤ d) : ∃ ws : List (List Nat), (∀ w ∈ ws, okS w = true) ∧ ws.length ≤ 4 ∧ f__law_few [(.fz, .int d), (.lst .fz, .lst [.str (S "a"), .str (S "aa"), .str (S "b"), .str (S "tick")])] = some (.ok (.fz, .tup (ws.map D.str)), [none, none]) := by
  have h : Ef f__law_few [(.fz, .int d), (.lst .fz, .lst [.str (S "a"), .str (S "aa"), .str (S "b"), .str (S "tick")])] noX fun sh d xs => ∃ ws : List (List Nat), (∀ w ∈ ws, okS w = true) ∧ ws.length ≤ 4 ∧ sh = .fz ∧ d = .tup (ws.map D.str) ∧ xs = [none, none] := by
    refine Ef.fn rfl (by decide) ?_
    unfold b__law_few
    simp
    refine ev_lcE (fun x => ∃ w, okS w = true ∧ x = .str w) ?_
    simp
    refine ⟨by decide, fun x hx => ?_, fun xs hxs hl => ?_⟩
    · obtain ⟨k, hk, rfl⟩ := mem_range.mp hx
      have : k = 0 ∨ k = 1 ∨ k = 2 ∨ k = 3 := by omega
      rcases this with rfl | rfl | rfl | rfl
      all_goals simp
      all_goals exact fun _ => by decide +kernel
    · have hs : ∀ x ∈ xs, ∃ w, x = .str w := fun x hx => let ⟨w, _, e⟩ := hxs x hx; ⟨w, e⟩
      rw [sorted_str hs (sizeLine_le (by omega))]
      obtain ⟨ws, e, hw⟩ := all_str (xs := sortD xs) (P := fun w => okS w = true) fun x hx => hxs x (mem_sort.mp hx)
      have hl2 : ws.length = xs.length := by rw [← len_sort (xs := xs), e]; simp
      rw [e]
      simp
      exact ⟨ws, hw, by omega, rfl⟩
  obtain ⟨_, _, xs, e, ws, h1, h2, rfl, rfl, rfl⟩ := h.ok
  exact ⟨ws, h1, h2, e⟩

/-- a behaviour -/
inductive Bh where
  | tr (ws : List (List Nat))
  | dv (ws : List (List Nat))
  | fl (ws os : List (List Nat))
def Bh.d : Bh → D
  | .tr ws => .tup [.str (S "trace"), .tup (ws.map D.str)]
  | .dv ws => .tup [.str (S "divergence"), .tup (ws.map D.str)]
  | .fl ws os => .tup [.str (S "failure"), .tup (ws.map D.str), .tup (os.map D.str)]
def kt (ws : List (List Nat)) (k : Int) (os : List (List Nat)) : D := .tup [.int (ws.length : Int), .tup (ws.map D.str), .int k, .int (os.length : Int), .tup (os.map D.str)]
def Bh.key : Bh → D
  | .tr ws => kt ws 0 []
  | .dv ws => kt ws 1 []
  | .fl ws os => kt ws 2 os
def Bh.ok : Bh → Prop
  | .tr ws => (∀ w ∈ ws, okS w = true)
  | .dv ws => (∀ w ∈ ws, okS w = true)
  | .fl ws os => (∀ w ∈ ws, okS w = true) ∧ (∀ w ∈ os, okS w = true)
theorem strs_inj : ∀ {ws us : List (List Nat)}, ws.map D.str = us.map D.str → ws = us
  | [], [], _ => rfl
  | [], _ :: _, h => by simp at h
  | _ :: _, [], h => by simp at h
  | w :: ws, u :: us, h => by
    simp only [List.map_cons, List.cons.injEq, D.str.injEq] at h
    rw [h.1, strs_inj h.2]
theorem key_inj {a b : Bh} (h : a.key = b.key) : a = b := by
  cases a <;> cases b <;> simp [Bh.key, kt] at h
  · rw [strs_inj h.2]
  · rw [strs_inj h.2]
  · rw [strs_inj h.2.1, strs_inj h.2.2.2]
theorem d_inj {a b : Bh} (h : a.d = b.d) : a = b := by
  have n1 : S "trace" ≠ S "divergence" := by decide +kernel
  cases a <;> cases b <;> simp [Bh.d] at h
  · rw [strs_inj h]
  · exact absurd h.1 n1
  · exact absurd h.1.symm n1
  · rw [strs_inj h]
  · rw [strs_inj h.1, strs_inj h.2]
theorem okey (b : Bh) : f_order_key [(.fz, b.d)] = some (.ok (.fz, b.key), [none]) := of_ef (by
  have k1 : conIndexF (y_KINDS.map fun s => s.cps.toList) (.str (S "trace")) = some (.fz, .int 0) := by kernel_rfl
  have k2 : conIndexF (y_KINDS.map fun s => s.cps.toList) (.str (S "divergence")) = some (.fz, .int 1) := by kernel_rfl
  have k3 : conIndexF (y_KINDS.map fun s => s.cps.toList) (.str (S "failure")) = some (.fz, .int 2) := by kernel_rfl
  refine Ef.fn rfl (by decide) ?_
  unfold b_order_key
  cases b
  · simp [Bh.d, Bh.key, kt, k1]
  · simp [Bh.d, Bh.key, kt, k2]
  · simp [Bh.d, Bh.key, kt, k3])
theorem lkey (b : Bh) : f__law_key [(.fz, b.d)] = some (.ok (.fz, b.key), [none]) := of_ef (by
  have k1 : indexF (.lst [.str (S "trace"), .str (S "divergence"), .str (S "failure")]) (.str (S "trace")) = some (.fz, .int 0) := by kernel_rfl
  have k2 : indexF (.lst [.str (S "trace"), .str (S "divergence"), .str (S "failure")]) (.str (S "divergence")) = some (.fz, .int 1) := by kernel_rfl
  have k3 : indexF (.lst [.str (S "trace"), .str (S "divergence"), .str (S "failure")]) (.str (S "failure")) = some (.fz, .int 2) := by kernel_rfl
  have e1 : eqF (.str (S "trace")) (.str (S "failure")) = some (.fz, .bl false) := by kernel_rfl
  have e2 : eqF (.str (S "divergence")) (.str (S "failure")) = some (.fz, .bl false) := by kernel_rfl
  have e3 : eqF (.str (S "failure")) (.str (S "failure")) = some (.fz, .bl true) := by kernel_rfl
  refine Ef.fn rfl (by decide) ?_
  unfold b__law_key
  cases b
  · simp [Bh.d, Bh.key, kt, k1, e1]
  · simp [Bh.d, Bh.key, kt, k2, e2]
  · simp [Bh.d, Bh.key, kt, k3, e3])
end K25

namespace K25
open Dt PySem
theorem pys_strs : ∀ ws : List (List Nat), D.pys (ws.map D.str) = some (ws.map fun w => PyData.str ⟨w.toArray⟩)
  | [] => rfl
  | w :: ws => by simp [D.pys, D.py, pys_strs ws]
theorem alike_strs : ∀ ws us : List (List Nat), PySem.W.alikeAll (ws.map fun w => PyData.str ⟨w.toArray⟩) (us.map fun w => PyData.str ⟨w.toArray⟩) = true
  | [], us => by simp [PySem.W.alikeAll]
  | w :: ws, [] => by simp [PySem.W.alikeAll]
  | w :: ws, u :: us => by simp [PySem.W.alikeAll, PySem.W.alike, alike_strs ws us]
theorem depth_strs : ∀ ws : List (List Nat), PyData.depthAll (ws.map fun w => PyData.str ⟨w.toArray⟩) = 0
  | [] => rfl
  | w :: ws => by simp [PyData.depthAll, PyData.depth, depth_strs ws]
theorem lt_kt (ws us : List (List Nat)) (k j : Int) (os ps : List (List Nat)) : ∃ c, ltF (kt ws k os) (kt us j ps) = some (.fz, .bl c) := by
  unfold ltF ltB kt
  simp only [D.py, D.pys, pys_strs]
  rw [if_pos]
  · exact ⟨_, rfl⟩
  · constructor
    · simp [PySem.W.alike, PySem.W.alikeAll, alike_strs]
    · simp [PyData.depth, PyData.depthAll, depth_strs]
theorem lt_key (a b : Bh) : ∃ c, ltF a.key b.key = some (.fz, .bl c) := by
  cases a <;> cases b <;> exact lt_kt _ _ _ _ _ _
theorem pls_strs {n : Nat} {ws : List (List Nat)} (h : ∀ w ∈ ws, okS w = true) : pls (n + 1) (ws.map D.str) = true := by
  rw [pls_iff]
  intro x hx
  obtain ⟨w, hw, rfl⟩ := List.mem_map.mp hx
  simpa [pl] using h w hw
theorem pl_kt {ws os : List (List Nat)} {k : Int} (h : ∀ w ∈ ws, okS w = true) (h' : ∀ w ∈ os, okS w = true) : pl 3 (kt ws k os) = true := by
  have e1 := pls_strs (n := 0) h
  have e2 := pls_strs (n := 0) h'
  simp only [Nat.zero_add] at e1 e2
  simp [kt, pl, pls, e1, e2]
theorem pl_key {b : Bh} (h : b.ok) : pl 3 b.key = true := by
  cases b
  · exact pl_kt h (by simp)
  · exact pl_kt h (by simp)
  · exact pl_kt h.1 h.2
theorem pl_d {b : Bh} (h : b.ok) : pl 3 b.d = true := by
  have o1 : okS (S "trace") = true := by decide +kernel
  have o2 : okS (S "divergence") = true := by decide +kernel
  have o3 : okS (S "failure") = true := by decide +kernel
  cases b
  · have e1 := pls_strs (n := 0) h
    simp only [Nat.zero_add] at e1
    simp [Bh.d, pl, pls, e1, o1]
  · have e1 := pls_strs (n := 0) h
    simp only [Nat.zero_add] at e1
    simp [Bh.d, pl, pls, e1, o2]
  · have e1 := pls_strs (n := 0) h.1
    have e2 := pls_strs (n := 0) h.2
    simp only [Nat.zero_add] at e1 e2
    simp [Bh.d, pl, pls, e1, e2, o3]
open Classical in
theorem eq_key {a b : Bh} (ha : a.ok) (hb : b.ok) : eqF a.key b.key = some (.fz, .bl (decide (a = b))) := by
  unfold eqF
  rw [eqB_pl (pl_key ha) (pl_key hb) (by decide) (by decide)]
  by_cases h : a = b
  · simp [h]
  · simp [h]
    exact fun e => h (key_inj e)
open Classical in
theorem eq_d {a b : Bh} (ha : a.ok) (hb : b.ok) : eqF a.d b.d = some (.fz, .bl (decide (a = b))) := by
  unfold eqF
  rw [eqB_pl (pl_d ha) (pl_d hb) (by decide) (by decide)]
  by_cases h : a = b
  · simp [h]
  · simp [h]
    exact fun e => h (d_inj e)
theorem isi_key (b : Bh) : isiF b.key (.ty "tuple") = some (.fz, .bl true) := by
  cases b <;> rfl
def gk (d : D) : D := match f_order_key [(.fz, d)] with
  | some (.ok (_, k), _) => k
  | _ => .non
theorem gk_d (b : Bh) : gk b.d = b.key := by
  unfold gk
  rw [okey]
theorem keys_eq (bs : List Bh) : ((bs.map Bh.d).filter fun _ => true).map gk = bs.map Bh.key := by
  rw [List.filter_eq_self.mpr (by simp), List.map_map]
  exact List.map_congr_left fun b _ => gk_d b
theorem plain (ns : List Int) (hl : ns.length ≤ 63) : ∃ xs, f_law [(.fz, .lst (ns.map D.int))] = some (.ok (.fz, .bl true), xs) := by
  have h : Ef f_law [(.fz, .lst (ns.map D.int))] noX fun sh d xs => sh = .fz ∧ d = .bl true := by
    refine Ef.fn rfl (by decide) ?_
    unfold b_law
    refine ev_cut (fun S => S = [some (.fz, .lst (ns.map D.int)), some (.lst .fz, .lst []), none, none, none, none, none, none, none, none, none]) ?_ ?_
    · simp
    intro S hS; subst hS
    refine ev_cut (fun S => ∃ (bs : List Bh) (x2 x3 x4 x5 : Slot), (∀ b ∈ bs, b.ok) ∧ bs.length ≤ 63 ∧ S = [some (.fz, .lst (ns.map D.int)), some (.lst .fz, .lst (bs.map Bh.d)), x2, x3, x4, x5, none, none, none, none, none]) ?_ ?_
    · rw [ev_for]
      simp
      have hmin : (if (ns.length : Int) < 14 then (ns.length : Int) else 14) ≤ 14 := by split <;> omega
      have hmin0 : 0 ≤ (if (ns.length : Int) < 14 then (ns.length : Int) else 14) := by split <;> omega
      generalize (if (ns.length : Int) < 14 then (ns.length : Int) else 14) = n at hmin hmin0
      refine ⟨⟨by omega, by omega⟩, ev_forN (fun k S => ∃ (bs : List Bh) (x2 x3 x4 x5 : Dt.Slot), (∀ b ∈ bs, b.ok) ∧ bs.length = k ∧ S = [some (.fz, .lst (ns.map D.int)), some (.lst .fz, .lst (bs.map Bh.d)), x2, x3, x4, x5, none, none, none, none, none]) (k0 := 0) ?_ ?_ ?_⟩
      · exact ⟨[], none, none, none, none, by simp, rfl, rfl⟩
      · intro k d S hd ⟨bs, x2, x3, x4, x5, hok, hk, hS⟩
        subst hS
        simp at hd
        obtain ⟨hkn, rfl⟩ := hd
        refine ⟨_, rfl, ?_⟩
        obtain ⟨x, y, z, hx, hy, hz, hdr⟩ := run_draws (cellI ns k) (cell_nn ns k)
        obtain ⟨ws, hw, hwl, ew⟩ := words_ok x hx
        obtain ⟨os, ho, hol, eo⟩ := few_ok (z % 16) (Int.emod_nonneg _ (by decide))
        have hc : ∀ X Q, Ef f__law_cell [(.fz, .lst (ns.map D.int)), (.fz, .int k)] X Q ↔ Q .fz (.int (cellI ns k)) [none, none] := fun X Q => ef_ok (run_cell ns k)
        have hdr' : ∀ X Q, Ef f__law_draws [(.fz, .int (cellI ns k)), (.fz, .int 3)] X Q ↔ Q (.lst .fz) (.lst [.int x, .int y, .int z]) [none, none] := fun X Q => ef_ok hdr
        have ew' : ∀ X Q, Ef f__law_words [(.fz, .int x), (.fz, .int 3)] X Q ↔ Q .fz (.tup (ws.map D.str)) [none, none] := fun X Q => ef_ok ew
        have eo' : ∀ X Q, Ef f__law_few [(.fz, .int (z % 16)), (.lst .fz, .lst [.str (S "a"), .str (S "aa"), .str (S "b"), .str (S "tick")])] X Q ↔ Q .fz (.tup (os.map D.str)) [none, none] := fun X Q => ef_ok eo
        have hz : bs.length < sizeLine := sizeLine_lt (by omega)
        have push : ∀ b : Bh, b.ok → ∀ b' ∈ bs ++ [b], b'.ok := fun b hb b' h => by
          rcases List.mem_append.mp h with h | h
          · exact hok b' h
          · simp at h; subst h; exact hb
        have hy3 : y % 3 = 0 ∨ y % 3 = 1 ∨ y % 3 = 2 := by omega
        rcases hy3 with hy3 | hy3 | hy3
        · simp [hc, hdr', ew', eo', hy3, hz]
          exact ⟨bs ++ [.tr ws], push (.tr ws) hw, by simp; omega, by simp [Bh.d]⟩
        · simp [hc, hdr', ew', eo', hy3, hz]
          exact ⟨bs ++ [.dv ws], push (.dv ws) hw, by simp; omega, by simp [Bh.d]⟩
        · simp [hc, hdr', ew', eo', hy3, hz]
          exact ⟨bs ++ [.fl ws os], push (.fl ws os) ⟨hw, ho⟩, by simp; omega, by simp [Bh.d]⟩
      · intro S ⟨bs, x2, x3, x4, x5, hok, hk, hS⟩
        refine ⟨bs, hok, ?_, x2, x3, x4, x5, hS⟩
        simp at hk
        omega
    rintro _ ⟨bs, x2, x3, x4, x5, hok, hn, rfl⟩
    refine ev_cut (fun S => S = [some (.fz, .lst (ns.map D.int)), some (.fz, .lst (bs.map Bh.d)), x2, x3, x4, x5, some (.lst .fz, .lst (bs.map Bh.key)), none, none, none, none]) ?_ ?_
    · rw [ev_set]
      refine ev_lc (fun _ => true) gk ?_
      have hlk : ∀ (b : Bh) X Q, Ef f_order_key [(.fz, b.d)] X Q ↔ Q .fz b.key [none] := fun b X Q => ef_ok (okey b)
      simp [keys_eq, hlk, gk_d]
      exact sizeLine_le (by omega)
    intro S hS; subst hS
    rw [ev_seq, ev_for]
    simp
    refine ⟨by omega, ev_forN (fun _ S => ∃ (x2 x3 x4 x5 x8 x9 x10 : Dt.Slot), S = [some (.fz, .lst (ns.map D.int)), some (.fz, .lst (bs.map Bh.d)), x2, x3, x4, x5, some (.lst .fz, .lst (bs.map Bh.key)), none, x8, x9, x10]) (k0 := 0) ?_ ?_ ?_⟩
    · exact ⟨_, _, _, _, _, _, _, rfl⟩
    · intro k d S hd ⟨x2, x3, x4, x5, x8, x9, x10, hS⟩
      subst hS
      simp at hd
      obtain ⟨hk, rfl⟩ := hd
      refine ⟨_, rfl, ?_⟩
      rw [ev_seq, ev_for]
      simp
      refine ⟨by omega, ev_forN (fun _ S => ∃ (x3 x4 x5 x8 x9 x10 : Dt.Slot), S = [some (.fz, .lst (ns.map D.int)), some (.fz, .lst (bs.map Bh.d)), some (.fz, .int k), x3, x4, x5, some (.lst .fz, .lst (bs.map Bh.key)), none, x8, x9, x10]) (k0 := 0) ?_ ?_ ?_⟩
      · exact ⟨_, _, _, _, _, _, rfl⟩
      · intro j d S hd ⟨x3, x4, x5, x8, x9, x10, hS⟩
        subst hS
        simp at hd
        obtain ⟨hj, rfl⟩ := hd
        refine ⟨_, rfl, ?_⟩
        have ek : bs[k]? = some bs[k] := List.getElem?_eq_getElem hk
        have ej : bs[j]? = some bs[j] := List.getElem?_eq_getElem hj
        generalize bs[k] = a at ek
        generalize bs[j] = b at ej
        have oa : a.ok := hok a (List.mem_of_getElem? ek)
        have ob : b.ok := hok b (List.mem_of_getElem? ej)
        obtain ⟨c, hc⟩ := lt_key a b
        have hlk : ∀ (b : Bh) X Q, Ef f__law_key [(.fz, b.d)] X Q ↔ Q .fz b.key [none] := fun b X Q => ef_ok (lkey b)
        simp [ek, ej, hlk, hc, eq_key oa ob, eq_d oa ob, isi_key]
      · intro S ⟨x3, x4, x5, x8, x9, x10, hS⟩
        simp
        exact ⟨_, x3, x4, x5, x8, x9, x10, hS⟩
    · intro S hS
      obtain ⟨x2, x3, x4, x5, x8, x9, x10, hS⟩ := hS
      subst hS
      simp
  obtain ⟨_, _, xs, e, rfl, rfl⟩ := h.ok
  exact ⟨xs, e⟩
end K25

open PySem PySem.W PyProof.Rows
set_option maxHeartbeats 0 in
theorem PySem.Challenge.cw_parley_k25_order_of_behaviours_holds : PySem.Challenge.rw_parley_k25_order_of_behaviours.Holds := by
  w_on; o_law; k_head; (case hw => w_witness2)
  k_fill
  refine Dt.law_walk (l := PySem.Challenge.rw_parley_k25_order_of_behaviours) (n := 63) (k := 2) (x := "script") K25.f_law (fun _ => 0) (fun _ => "") rfl (by decide) rfl ⟨rfl, by decide, by decide⟩ (fun w h Y => PySem.W.kIn_of Y) ?F Dt.fnP_len K25.plain
  case F =>
    intro w mg fa h KX Gh hmg
    refine' K25.all_mk KX Gh hmg ?a0 ?l0 ?c0 ?k0 ?a1 ?l1 ?c1 ?k1 ?a2 ?l2 ?c2 ?k2 ?a3 ?l3 ?c3 ?k3 ?a4 ?l4 ?c4 ?k4 ?a5 ?l5 ?c5 ?k5 ?a6 ?l6 ?c6 ?k6 ?z_abs ?z_int ?z_isinstance ?z_len ?z_min ?z_range ?z_sorted ?z_tuple ?ga0 ?gl0
    (case a0 => k_is)
    (case l0 => k_is)
    (case c0 => k_is)
    (case k0 => k_is)
    (case a1 => k_is)
    (case l1 => k_is)
    (case c1 => k_is)
    (case k1 => k_is)
    (case a2 => k_is)
    (case l2 => k_is)
    (case c2 => k_is)
    (case k2 => k_is)
    (case a3 => k_is)
    (case l3 => k_is)
    (case c3 => k_is)
    (case k3 => k_is)
    (case a4 => k_is)
    (case l4 => k_is)
    (case c4 => k_is)
    (case k4 => k_is)
    (case a5 => k_is)
    (case l5 => k_is)
    (case c5 => k_is)
    (case k5 => k_is)
    (case a6 => k_is)
    (case l6 => k_is)
    (case c6 => k_is)
    (case k6 => k_is)
    (case z_abs => k_is)
    (case z_int => k_is)
    (case z_isinstance => k_is)
    (case z_len => k_is)
    (case z_min => k_is)
    (case z_range => k_is)
    (case z_sorted => k_is)
    (case z_tuple => k_is)
    (case ga0 => k_is)
    (case gl0 => k_is)
