import JvmDerived
import JvmDerived.Pilot.@@N@@Statement
import JvmDerived.Pilot.@@N@@Code
set_option linter.unusedVariables false
set_option linter.unusedSimpArgs false
namespace Jvm.RoadKit
open Sem ClassFile Op Lib Jvm.Stand Jvm.Free Jvm.LawKit
section New
variable {p : Program} {l : Launch} {e : Env} {R : Room} {s : State} {m : MethodId} {args : Array Value} {below : List Frame} {meth : Method} {c : Code} {T : State} {locs : List Loc} {cells slots : Nat}
theorem retI (X : Stand p l e R s m args below meth c T locs cells slots) (hx : p.tables.exec = Jvm.exec) {pc : Nat} {Ls : Array Slot} {z : Int32} {rest : List Value} (hret : meth.sig.returnType = some .int) (hd : decode c.code pc = .ok (.ireturn, 1)) {fs : List Frame}
    (hl : ∀ (f : JFrame) (acts : List Action), f.method = m → f.locked = none → f.entered = [] → (doReturn e (T.setTop f) acts (some (.int z))).1 = T.setFrames fs) : Steps p.tables e below (T.setTop (mkF m pc Ls (.int z :: rest))) (T.setFrames fs) := by
  have hm' : T.vm.method? m = some meth := X.method'
  have hn : narrow .int (.int z) = .int z := rfl
  show Steps p.tables e below (T.setTop { method := m, pc := pc, locals := Ls, stack := _ :: rest, locked := none }) _
  jvm_step X.here [X.here.top, hx, hd, hm', hret, hn]
  first | (intro acts; rw [hl _ acts rfl rfl rfl]) | rw [hl _ _ rfl rfl rfl]
  exact Steps.refl _
end New
end Jvm.RoadKit
namespace Jvm.Pilot.@@N@@
open Jvm Jvm.ClassFile Sem Op Lib Jvm.Free Jvm.Stand Jvm.LawKit Jvm.RoadKit Bundle Jvm.Pilot.@@N@@.Jvm.D
/- records: scalars, int-like arrays, long arrays -/
abbrev Rec : Type := (Nat → Int32) × (Nat → Int32 → Int32) × (Nat → Int32 → Int64)
def zrec : Rec := (fun _ => 0, fun _ _ => 0, fun _ _ => 0)
def gI (ob : Rec) (k : Nat) : Int32 := ob.1 k
def gA (ob : Rec) (k : Nat) (i : Int32) : Int32 := ob.2.1 k i
def gJ (ob : Rec) (k : Nat) (i : Int32) : Int64 := ob.2.2 k i
def sI (ob : Rec) (k : Nat) (v : Int32) : Rec := (fun j => if j = k then v else ob.1 j, ob.2)
def sA (ob : Rec) (k : Nat) (i v : Int32) : Rec := (ob.1, fun j x => if j = k ∧ x = i then v else ob.2.1 j x, ob.2.2)
def sJ (ob : Rec) (k : Nat) (i : Int32) (v : Int64) : Rec := (ob.1, ob.2.1, fun j x => if j = k ∧ x = i then v else ob.2.2 j x)
def chk {γ : Type} (n i : Int32) (A : Option γ) : Option γ := if i < 0 then none else if i < n then A else none
def dvz {γ : Type} (y : Int32) (A : Option γ) : Option γ := if y = 0 then none else A
def bind2 {α β γ : Type} (o : Option (α × β)) (f : α → β → Option γ) : Option γ := o.bind fun q => f q.1 q.2
def bind3 {α β γ δ : Type} (o : Option (α × β × δ)) (f : α → β → δ → Option γ) : Option γ := o.bind fun q => f q.1 q.2.1 q.2.2
theorem ite_el {c : Prop} [Decidable c] {γ : Type} {A B : Option γ} {r : γ} {Q : Prop} (h : (if c then A else B) = some r) (t : c → A = some r → Q) (e : ¬ c → B = some r → Q) : Q := by
  by_cases hc : c
  · rw [if_pos hc] at h; exact t hc h
  · rw [if_neg hc] at h; exact e hc h
theorem bind_el {α γ : Type} {o : Option α} {f : α → Option γ} {r : γ} {Q : Prop} (h : o.bind f = some r) (k : ∀ x, o = some x → f x = some r → Q) : Q := by
  cases o with
  | none => cases h
  | some x => exact k x rfl h
theorem bind2_el {α β γ : Type} {o : Option (α × β)} {f : α → β → Option γ} {r : γ} {Q : Prop} (h : bind2 o f = some r) (k : ∀ x y, o = some (x, y) → f x y = some r → Q) : Q := by
  rcases o with _ | ⟨x, y⟩
  · cases h
  · exact k x y rfl h
theorem bind3_el {α β γ δ : Type} {o : Option (α × β × δ)} {f : α → β → δ → Option γ} {r : γ} {Q : Prop} (h : bind3 o f = some r) (k : ∀ x y z, o = some (x, y, z) → f x y z = some r → Q) : Q := by
  rcases o with _ | ⟨x, y, z⟩
  · cases h
  · exact k x y z rfl h
theorem chk_el {γ : Type} {n i : Int32} {A : Option γ} {r : γ} {Q : Prop} (h : chk n i A = some r) (k : (¬ i < 0 ∧ i < n) → A = some r → Q) : Q := by
  unfold chk at h
  by_cases h0 : i < 0
  · rw [if_pos h0] at h; cases h
  · rw [if_neg h0] at h
    by_cases h1 : i < n
    · rw [if_pos h1] at h; exact k ⟨h0, h1⟩ h
    · rw [if_neg h1] at h; cases h
theorem dvz_el {γ : Type} {y : Int32} {A : Option γ} {r : γ} {Q : Prop} (h : dvz y A = some r) (k : y ≠ 0 → A = some r → Q) : Q := by
  unfold dvz at h
  by_cases h0 : y = 0
  · rw [if_pos h0] at h; cases h
  · rw [if_neg h0] at h; exact k h0 h
def All {α : Type} (p : α → Prop) : List α → Prop
  | [] => True
  | x :: l => p x ∧ All p l
theorem All.mem {α : Type} {p : α → Prop} : ∀ {l : List α}, All p l → ∀ {x : α}, x ∈ l → p x
  | [], _, _, h => nomatch h
  | _ :: _, H, _, h => (List.mem_cons.mp h).elim (fun e => e ▸ H.1) (fun e => All.mem H.2 e)
def el (ty : FieldType) (ob : Rec) (k : Nat) (j : Int32) : Value := match ty with
  | .long => .long (ob.2.2 k j)
  | _ => .int (ob.2.1 k j)
def aD (ty : FieldType) : String := match ty with
  | .int => "[I"
  | .boolean => "[Z"
  | _ => "[J"
abbrev Cls : Type := String × List (String × String) × List (String × FieldType × Int32)
abbrev mem1 (k : Nat) {d : Jvm.Cond} (h : tables_1[k]? = some d) : d ∈ tables_1 := List.mem_of_getElem? h
abbrev sOk (C : String) (nd : String × String) : Prop := (Jvm.Cond.lays C C nd.1 nd.2 ∈ tables_1 ∨ Jvm.Cond.laysFinal C C nd.1 nd.2 ∈ tables_1) ∧ (nd.2 = "I" ∨ nd.2 = "Z")
abbrev aOk (C : String) (t : String × FieldType × Int32) : Prop := (Jvm.Cond.lays C C t.1 (aD t.2.1) ∈ tables_1 ∨ Jvm.Cond.laysFinal C C t.1 (aD t.2.1) ∈ tables_1) ∧ (t.2.1 = .int ∨ t.2.1 = .boolean ∨ t.2.1 = .long) ∧ ¬ t.2.2 < 0
def K : Cls := ("MirrorResync", [("n", "I"), ("regionSize", "I"), ("clearDelay", "I"), ("regions", "I"), ("down", "Z"), ("busy", "Z"), ("pBlock", "I"), ("pValue", "I"), ("pCursor", "I")], [("data", .int, 64), ("acked", .int, 32), ("state", .int, 2), ("dirty", .boolean, 32), ("pending", .boolean, 32), ("age", .int, 32)])
theorem kS : All (sOk K.1) K.2.1 := ⟨⟨Or.inl (mem1 27 rfl), Or.inl rfl⟩, ⟨Or.inl (mem1 29 rfl), Or.inl rfl⟩, ⟨Or.inl (mem1 31 rfl), Or.inl rfl⟩, ⟨Or.inl (mem1 33 rfl), Or.inl rfl⟩, ⟨Or.inl (mem1 35 rfl), Or.inr rfl⟩, ⟨Or.inl (mem1 37 rfl), Or.inr rfl⟩, ⟨Or.inl (mem1 39 rfl), Or.inl rfl⟩, ⟨Or.inl (mem1 41 rfl), Or.inl rfl⟩, ⟨Or.inl (mem1 43 rfl), Or.inl rfl⟩, trivial⟩
theorem kA : All (aOk K.1) K.2.2 := ⟨⟨Or.inl (mem1 11 rfl), Or.inl rfl, by decide⟩, ⟨Or.inl (mem1 13 rfl), Or.inl rfl, by decide⟩, ⟨Or.inl (mem1 15 rfl), Or.inl rfl, by decide⟩, ⟨Or.inl (mem1 18 rfl), Or.inr (Or.inl rfl), by decide⟩, ⟨Or.inl (mem1 20 rfl), Or.inr (Or.inl rfl), by decide⟩, ⟨Or.inl (mem1 22 rfl), Or.inl rfl, by decide⟩, trivial⟩
abbrev kN : Nat := 15
theorem kI : Jvm.Cond.instantiable K.1 kN ∈ tables_1 := mem1 1 rfl
theorem kZ : Jvm.Cond.initialized K.1 ∈ tables_1 := mem1 2 rfl
theorem kNm : (K.2.1.map (·.1) ++ K.2.2.map (·.1)).Nodup := by decide +kernel
theorem nm_ss {k k' : Nat} {nd nd' : String × String} (h : K.2.1[k]? = some nd) (h' : K.2.1[k']? = some nd') (ne : k ≠ k') : nd.1 ≠ nd'.1 := fun e => by
  have l := (List.getElem?_eq_some_iff.mp h).1
  have l' := (List.getElem?_eq_some_iff.mp h').1
  refine ne ((List.getElem?_inj (l := K.2.1.map (·.1) ++ K.2.2.map (·.1)) (i := k) (j := k') (by simp; omega) kNm).mp ?_)
  rw [List.getElem?_append_left (by simpa using l), List.getElem?_append_left (by simpa using l'), List.getElem?_map, List.getElem?_map, h, h']
  simp [e]
theorem nm_aa {k k' : Nat} {t t' : String × FieldType × Int32} (h : K.2.2[k]? = some t) (h' : K.2.2[k']? = some t') (ne : k ≠ k') : t.1 ≠ t'.1 := fun e => by
  have l := (List.getElem?_eq_some_iff.mp h).1
  have l' := (List.getElem?_eq_some_iff.mp h').1
  have q := (List.getElem?_inj (l := K.2.1.map (·.1) ++ K.2.2.map (·.1)) (i := K.2.1.length + k) (j := K.2.1.length + k') (by simp; omega) kNm).mp (by
    rw [List.getElem?_append_right (by simp), List.getElem?_append_right (by simp)]
    simp [h, h', e])
  omega
theorem nm_sa {k k' : Nat} {nd : String × String} {t : String × FieldType × Int32} (h : K.2.1[k]? = some nd) (h' : K.2.2[k']? = some t) : nd.1 ≠ t.1 := fun e => by
  have l := (List.getElem?_eq_some_iff.mp h).1
  have l' := (List.getElem?_eq_some_iff.mp h').1
  have q := (List.getElem?_inj (l := K.2.1.map (·.1) ++ K.2.2.map (·.1)) (i := k) (j := K.2.1.length + k') (by simp; omega) kNm).mp (by
    rw [List.getElem?_append_left (by simpa using l), List.getElem?_append_right (by simp)]
    simp [h, h', e])
  omega
abbrev Ctx : Type := Launch × State × Nat × Array Value
def Ok (C : Ctx) : Prop := ∀ d ∈ tables_1, d.before C.2.2.2 C.2.1 = true
def ArrAt (Z : State) (h : Heap) (b : Nat) (ty : FieldType) (len : Int32) (v : Int32 → Value) : Prop := ∃ cl : Cell, Arr Z h b cl ty ∧ cl.slots.size = len.toNatClampNeg ∧ ∀ j : Int32, ¬ j < 0 → j < len → cl.slots[j.toNatClampNeg]? = some (v j)
def ObjAt (Z : State) (h : Heap) (a : Nat) (q : Nat) (ob : Rec) : Prop :=
  Exa Z h a K.1 ∧ (∀ k nd, K.2.1[k]? = some nd → Fld Z h a K.1 nd.1 nd.2 (.int (ob.1 k))) ∧
  (∀ k t, K.2.2[k]? = some t → k < q → Fld Z h a K.1 t.1 (aD t.2.1) (.ref (a + 1 + k)) ∧ ArrAt Z h (a + 1 + k) t.2.1 t.2.2 (el t.2.1 ob k)) ∧
  (∀ k t, K.2.2[k]? = some t → q ≤ k → Fld Z h a K.1 t.1 (aD t.2.1) .null)
abbrev AH : Type := Nat × List (Nat × Nat × Rec)
def Rep (Z : State) (n0 : Nat) (h : Heap) (G : AH) : Prop :=
  h.size = G.1 ∧ Old Z n0 h ∧ (∀ x ∈ G.2, n0 ≤ x.1 ∧ x.1 + x.2.1 < G.1 ∧ ObjAt Z h x.1 x.2.1 x.2.2) ∧ G.2.Pairwise (fun x y => x.1 + x.2.1 < y.1 ∨ y.1 + y.2.1 < x.1)
section Facts
variable {Z : State} {h h' : Heap} {a b : Nat} {q k n0 top : Nat} {ob ob' : Rec} {nd : String × String} {t : String × FieldType × Int32} {a0 : Array Value} {sl : Nat} {v : Value} {H : List (Nat × Nat × Rec)} {G : AH}
theorem fld_fr {C n d : String} (e : h'[a]? = h[a]?) (F : Fld Z h a C n d v) : Fld Z h' a C n d v := by
  obtain ⟨cell, cf, k, i, f, h1, r⟩ := F; exact ⟨cell, cf, k, i, f, e.trans h1, r⟩
theorem exa_fr {C : String} (e : h'[a]? = h[a]?) (F : Exa Z h a C) : Exa Z h' a C := by
  obtain ⟨cell, k, h1, r⟩ := F; exact ⟨cell, k, e.trans h1, r⟩
theorem arrAt_fr {ty : FieldType} {len : Int32} {w : Int32 → Value} (e : h'[a]? = h[a]?) (F : ArrAt Z h a ty len w) : ArrAt Z h' a ty len w := by
  obtain ⟨cl, A, r⟩ := F; exact ⟨cl, ⟨e.trans A.1, A.2⟩, r⟩
theorem ObjAt.frame (e : ∀ b, a ≤ b → b ≤ a + q → h'[b]? = h[b]?) (F : ObjAt Z h a q ob) : ObjAt Z h' a q ob := by
  have e0 := e a (Nat.le_refl _) (Nat.le_add_right _ _)
  refine ⟨exa_fr e0 F.1, fun k nd hk => fld_fr e0 (F.2.1 k nd hk), fun k t hk hq => ⟨fld_fr e0 (F.2.2.1 k t hk hq).1, arrAt_fr (e _ (by omega) (by omega)) (F.2.2.1 k t hk hq).2⟩, fun k t hk hq => fld_fr e0 (F.2.2.2 k t hk hq)⟩
theorem ObjAt.ext (E : Ext h h') (F : ObjAt Z h a q ob) : ObjAt Z h' a q ob := by
  refine ⟨F.1.ext E, fun k nd hk => (F.2.1 k nd hk).ext E, fun k t hk hq => ⟨(F.2.2.1 k t hk hq).1.ext E, ?_⟩, fun k t hk hq => (F.2.2.2 k t hk hq).ext E⟩
  obtain ⟨cl, A, r⟩ := (F.2.2.1 k t hk hq).2; exact ⟨cl, A.ext E, r⟩
theorem wr_ne (W : Wr h h' a sl v) (ne : b ≠ a) : h'[b]? = h[b]? := by
  obtain ⟨cell, -, -, -, rfl⟩ := W; exact Array.getElem?_setIfInBounds_ne (Ne.symm ne)
theorem laidS (hw : ∀ d ∈ tables_1, d.before a0 Z = true) (hk : K.2.1[k]? = some nd) : Laid Z a0 K.1 K.1 nd.1 nd.2 := ((All.mem kS (List.mem_of_getElem? hk)).1).imp (hw _) (hw _)
theorem laidA (hw : ∀ d ∈ tables_1, d.before a0 Z = true) (hk : K.2.2[k]? = some t) : Laid Z a0 K.1 K.1 t.1 (aD t.2.1) := ((All.mem kA (List.mem_of_getElem? hk)).1).imp (hw _) (hw _)
theorem pfS (hk : K.2.1[k]? = some nd) : ∃ ty, parseFieldDescriptor nd.2 = some ty := by
  rcases (All.mem kS (List.mem_of_getElem? hk)).2 with e | e <;> rw [e]
  · exact ⟨.int, by decide⟩
  · exact ⟨.boolean, by decide⟩
theorem pfA (hk : K.2.2[k]? = some t) : parseFieldDescriptor (aD t.2.1) = some (.array t.2.1) := by
  rcases (All.mem kA (List.mem_of_getElem? hk)).2.1 with e | e | e <;> rw [e] <;> decide
theorem ObjAt.putI {x : Int32} (hw : ∀ d ∈ tables_1, d.before a0 Z = true) (F : ObjAt Z h a q ob) (hk : K.2.1[k]? = some nd) (W : Wr h h' a (Jvm.RoadKit.slotOf Z K.1 nd.1 nd.2) (.int x)) : ObjAt Z h' a q (sI ob k x) := by
  obtain ⟨ty, hty⟩ := pfS hk
  refine ⟨F.1.wr W, fun k' nd' hk' => ?_, fun k' t hk' hq => ⟨(F.2.2.1 k' t hk' hq).1.other W (Or.inr (Jvm.RoadKit.slot_ne (laidA hw hk') (laidS hw hk) (Ne.symm (nm_sa hk hk')) (pfA hk') hty)), ?_⟩, fun k' t hk' hq => (F.2.2.2 k' t hk' hq).other W (Or.inr (Jvm.RoadKit.slot_ne (laidA hw hk') (laidS hw hk) (Ne.symm (nm_sa hk hk')) (pfA hk') hty))⟩
  · by_cases e : k' = k
    · subst e; cases hk.symm.trans hk'
      have := (F.2.1 k' nd hk).same W
      simpa [sI] using this
    · obtain ⟨ty', hty'⟩ := pfS hk'
      have := (F.2.1 k' nd' hk').other W (Or.inr (Jvm.RoadKit.slot_ne (laidS hw hk') (laidS hw hk) (nm_ss hk' hk e) hty' hty))
      simpa [sI, e] using this
  · have := arrAt_fr (wr_ne W (by omega)) (F.2.2.1 k' t hk' hq).2
    have e : el t.2.1 (sI ob k x) k' = el t.2.1 ob k' := by funext j; unfold el; split <;> rfl
    rw [e]; exact this
theorem ObjAt.putA (F : ObjAt Z h a q ob) (hk : K.2.2[k]? = some t) (hq : k < q) {x : Value} {j : Int32} (hj : ¬ j < 0 ∧ j < t.2.2) (W : Wr h h' (a + 1 + k) j.toNatClampNeg x)
    (e1 : el t.2.1 ob' k = fun i => if i = j then x else el t.2.1 ob k i) (e2 : ∀ k' t', k' ≠ k → el t' ob' k' = el t' ob k') (e3 : ob'.1 = ob.1) : ObjAt Z h' a q ob' := by
  have u : h'[a]? = h[a]? := wr_ne W (by omega)
  refine ⟨exa_fr u F.1, fun k' nd hk' => by rw [e3]; exact fld_fr u (F.2.1 k' nd hk'), fun k' t' hk' hq' => ⟨fld_fr u (F.2.2.1 k' t' hk' hq').1, ?_⟩, fun k' t' hk' hq' => fld_fr u (F.2.2.2 k' t' hk' hq')⟩
  by_cases e : k' = k
  · subst e; cases hk.symm.trans hk'
    obtain ⟨cl, A, S, V⟩ := (F.2.2.1 k' t hk hq).2
    have inb : ¬ (j < 0 ∨ cl.slots.size ≤ j.toNatClampNeg) := inb_of S hj
    refine ⟨_, A.same W, by rw [sz_set]; exact S, fun i h0 h1 => ?_⟩
    rw [e1]
    by_cases ei : i = j
    · simp only [ei, if_true]; exact get_hit inb rfl
    · simp only [ei, if_false]; rw [get_miss hj.1 h0 ei]; exact V i h0 h1
  · rw [e2 k' _ e]; exact arrAt_fr (wr_ne W (by omega)) (F.2.2.1 k' t' hk' hq').2
theorem el_sA {ty : FieldType} (ht : ty ≠ .long) (j x : Int32) : el ty (sA ob k j x) k = fun i => if i = j then .int x else el ty ob k i := by
  funext i; cases ty <;> first | exact absurd rfl ht | (simp only [el, sA, true_and]; split <;> rfl)
theorem el_sJ (j : Int32) (x : Int64) : el .long (sJ ob k j x) k = fun i => if i = j then .long x else el .long ob k i := by
  funext i; simp only [el, sJ, true_and]; split <;> rfl
theorem el_sA' (j x : Int32) (k' : Nat) (t' : FieldType) (ne : k' ≠ k) : el t' (sA ob k j x) k' = el t' ob k' := by
  funext i; cases t' <;> simp [el, sA, ne]
theorem el_sJ' (j : Int32) (x : Int64) (k' : Nat) (t' : FieldType) (ne : k' ≠ k) : el t' (sJ ob k j x) k' = el t' ob k' := by
  funext i; cases t' <;> simp [el, sJ, ne]
theorem Rep.upd (R : Rep Z n0 h (top, (a, q, ob) :: H)) (hs : h'.size = h.size) (hO : Old Z n0 h') (e : ∀ b, (b < a ∨ a + q < b) → h'[b]? = h[b]?) (F : ObjAt Z h' a q ob') : Rep Z n0 h' (top, (a, q, ob') :: H) := by
  obtain ⟨r1, r2, r3, r4⟩ := R
  refine ⟨hs.trans r1, hO, fun x hx => ?_, ?_⟩
  · rcases List.mem_cons.mp hx with rfl | hx
    · exact ⟨(r3 _ (List.mem_cons_self ..)).1, (r3 _ (List.mem_cons_self ..)).2.1, F⟩
    · obtain ⟨p1, p2, p3⟩ := r3 x (List.mem_cons_of_mem _ hx)
      refine ⟨p1, p2, p3.frame fun b h1 h2 => e b ?_⟩
      have := (List.pairwise_cons.mp r4).1 x hx
      simp only at this
      omega
  · have := List.pairwise_cons.mp r4
    exact List.pairwise_cons.mpr ⟨fun y hy => this.1 y hy, this.2⟩
theorem Rep.objs (R : Rep Z n0 h (top, (a, q, ob) :: H)) : n0 ≤ a ∧ a + q < top ∧ ObjAt Z h a q ob := R.2.2.1 _ (List.mem_cons_self ..)
theorem Rep.putI {x : Int32} (hw : ∀ d ∈ tables_1, d.before a0 Z = true) (R : Rep Z n0 h (top, (a, q, ob) :: H)) (hk : K.2.1[k]? = some nd) (W : Wr h h' a (Jvm.RoadKit.slotOf Z K.1 nd.1 nd.2) (.int x)) : Rep Z n0 h' (top, (a, q, sI ob k x) :: H) :=
  R.upd W.size (R.2.1.wr W R.objs.1) (fun b hb => wr_ne W (by omega)) (R.objs.2.2.putI hw hk W)
theorem Rep.putA {x j : Int32} (R : Rep Z n0 h (top, (a, q, ob) :: H)) (hk : K.2.2[k]? = some t) (hq : k < q) (ht : t.2.1 ≠ .long) (hj : ¬ j < 0 ∧ j < t.2.2) (W : Wr h h' (a + 1 + k) j.toNatClampNeg (.int x)) : Rep Z n0 h' (top, (a, q, sA ob k j x) :: H) :=
  R.upd W.size (R.2.1.wr W (by have := R.objs.1; omega)) (fun b hb => wr_ne W (by omega)) (R.objs.2.2.putA hk hq hj W (el_sA ht j x) (fun k' t' ne => el_sA' j x k' t' ne) rfl)
theorem Rep.putJ {j : Int32} {x : Int64} (R : Rep Z n0 h (top, (a, q, ob) :: H)) (hk : K.2.2[k]? = some t) (hq : k < q) (ht : t.2.1 = .long) (hj : ¬ j < 0 ∧ j < t.2.2) (W : Wr h h' (a + 1 + k) j.toNatClampNeg (.long x)) : Rep Z n0 h' (top, (a, q, sJ ob k j x) :: H) :=
  R.upd W.size (R.2.1.wr W (by have := R.objs.1; omega)) (fun b hb => wr_ne W (by omega)) (R.objs.2.2.putA hk hq hj W (by rw [ht]; exact el_sJ j x) (fun k' t' ne => el_sJ' j x k' t' ne) rfl)
theorem Rep.swap {x y : Nat × Nat × Rec} (R : Rep Z n0 h (top, x :: y :: H)) : Rep Z n0 h (top, y :: x :: H) := by
  obtain ⟨r1, r2, r3, r4⟩ := R
  refine ⟨r1, r2, fun z hz => r3 z ?_, ?_⟩
  · simp only [List.mem_cons] at hz ⊢
    rcases hz with e | e | e
    · exact Or.inr (Or.inl e)
    · exact Or.inl e
    · exact Or.inr (Or.inr e)
  · simp only [List.pairwise_cons, List.mem_cons] at r4 ⊢
    obtain ⟨p1, p2, p3⟩ := r4
    refine ⟨fun z hz => ?_, fun z hz => p1 z (Or.inr hz), p3⟩
    rcases hz with rfl | hz
    · exact (p1 _ (Or.inl rfl)).symm
    · exact p2 z hz
theorem ObjAt.addA (hw : ∀ d ∈ tables_1, d.before a0 Z = true) (F : ObjAt Z h a k ob) (hk : K.2.2[k]? = some t) (A : ArrAt Z h (a + 1 + k) t.2.1 t.2.2 (el t.2.1 ob k)) (W : Wr h h' a (Jvm.RoadKit.slotOf Z K.1 t.1 (aD t.2.1)) (.ref (a + 1 + k))) : ObjAt Z h' a (k + 1) ob := by
  refine ⟨F.1.wr W, fun k' nd hk' => ?_, fun k' t' hk' hq => ?_, fun k' t' hk' hq => ?_⟩
  · obtain ⟨ty', hty'⟩ := pfS hk'
    exact (F.2.1 k' nd hk').other W (Or.inr (Jvm.RoadKit.slot_ne (laidS hw hk') (laidA hw hk) (nm_sa hk' hk) hty' (pfA hk)))
  · by_cases e : k' = k
    · subst e
      have et : t = t' := Option.some.inj (hk.symm.trans hk')
      subst et
      exact ⟨(F.2.2.2 k' t hk (Nat.le_refl _)).same W, arrAt_fr (wr_ne W (by omega)) A⟩
    · obtain ⟨f1, f2⟩ := F.2.2.1 k' t' hk' (by omega)
      exact ⟨f1.other W (Or.inr (Jvm.RoadKit.slot_ne (laidA hw hk') (laidA hw hk) (nm_aa hk' hk e) (pfA hk') (pfA hk))), arrAt_fr (wr_ne W (by omega)) f2⟩
  · exact (F.2.2.2 k' t' hk' (by omega)).other W (Or.inr (Jvm.RoadKit.slot_ne (laidA hw hk') (laidA hw hk) (nm_aa hk' hk (by omega)) (pfA hk') (pfA hk)))
theorem Rep.addA {h1 h2 : Heap} (hw : ∀ d ∈ tables_1, d.before a0 Z = true) (R : Rep Z n0 h (top, (a, k, ob) :: H)) (E : Ext h h1) (s1 : h1.size = top + 1) (htop : top = a + 1 + k) (hk : K.2.2[k]? = some t) (A : ArrAt Z h1 top t.2.1 t.2.2 (el t.2.1 ob k)) (W : Wr h1 h2 a (Jvm.RoadKit.slotOf Z K.1 t.1 (aD t.2.1)) (.ref top)) : Rep Z n0 h2 (top + 1, (a, k + 1, ob) :: H) := by
  obtain ⟨q1, q2, q3⟩ := R.objs
  have hp := List.pairwise_cons.mp R.2.2.2
  have hO : ObjAt Z h2 a (k + 1) ob := by
    subst htop
    exact (q3.ext E).addA hw hk A W
  refine ⟨W.size.trans s1, (R.2.1.ext E).wr W q1, List.forall_mem_cons.mpr ⟨⟨q1, ?_, hO⟩, fun x hx => ?_⟩, List.pairwise_cons.mpr ⟨fun y hy => ?_, hp.2⟩⟩
  · show a + (k + 1) < top + 1; omega
  · obtain ⟨p1, p2, p3⟩ := R.2.2.1 x (List.mem_cons_of_mem _ hx)
    have u1 : a + k < x.1 ∨ x.1 + x.2.1 < a := hp.1 x hx
    have u2 : x.1 + x.2.1 < top := p2
    exact ⟨p1, Nat.lt_succ_of_lt u2, (p3.ext E).frame fun b h1 h2 => wr_ne W (by omega)⟩
  · have u1 : a + k < y.1 ∨ y.1 + y.2.1 < a := hp.1 y hy
    have u2 : y.1 + y.2.1 < top := (R.2.2.1 y (List.mem_cons_of_mem _ hy)).2.1
    show a + (k + 1) < y.1 ∨ y.1 + y.2.1 < a
    omega
theorem arr_new {cA : ClassId} {ty : FieldType} {len : Int32} (A : Arr Z h b (newA cA ty len) ty) (hts : ty = .int ∨ ty = .boolean ∨ ty = .long) (hz : (∀ i, ob.2.1 k i = 0) ∧ (∀ i, ob.2.2 k i = 0)) : ArrAt Z h b ty len (el ty ob k) := by
  refine ⟨_, A, sz_new _ _ _, fun i h0 h1 => ?_⟩
  have hi : ¬ (i < 0 ∨ len.toNatClampNeg ≤ i.toNatClampNeg) := by
    have e0 : (0 : Int32).toInt = 0 := rfl
    simp only [Int32.lt_iff_toInt_lt, Int32.toNatClampNeg] at *
    omega
  rw [get_new hi]
  rcases hts with rfl | rfl | rfl
  · show some (Value.int 0) = some (Value.int (ob.2.1 k i)); rw [hz.1]
  · show some (Value.int 0) = some (Value.int (ob.2.1 k i)); rw [hz.1]
  · show some (Value.long 0) = some (Value.long (ob.2.2 k i)); rw [hz.2]
theorem Rep.start (s : State) : Rep s s.heap.size s.heap (s.heap.size, []) := ⟨rfl, Old.start s, fun x hx => (by cases hx), List.Pairwise.nil⟩
end Facts
/- bodies, decode facts, patterns of local variables -/
abbrev Bdy : Type := MethodName × ByteArray × Nat × Option FieldType × Room
def DAt (M : Bdy) (pc : Nat) (i : Instr) (n q : Nat) : Prop := decode M.2.1 pc = .ok (i, n) ∧ q = pc + n
abbrev Pat : Type := List (Option Slot)
abbrev vi (x : Int32) : Option Slot := some (.val (.int x))
abbrev vl (x : Int64) : Option Slot := some (.val (.long x))
abbrev vr (a : Nat) : Option Slot := some (.val (.ref a))
abbrev v2 : Option Slot := some .second
abbrev vn : Option Slot := none
def pget : Pat → Nat → Option Slot
  | [], _ => none
  | x :: _, 0 => x
  | _ :: l, n + 1 => pget l n
theorem pget_eq : ∀ (P : Pat) (i : Nat), pget P i = (P[i]?).join
  | [], _ => by simp [pget]
  | x :: l, 0 => by simp [pget]
  | x :: l, n + 1 => by simp [pget, pget_eq l n]
def pput : Pat → Nat → Option Slot → Pat
  | [], _, _ => []
  | _ :: l, 0, y => y :: l
  | x :: l, n + 1, y => x :: pput l n y
theorem pget_pput : ∀ (P : Pat) (i j : Nat) (y : Option Slot) (s : Slot), pget (pput P i y) j = some s → (j = i ∧ y = some s) ∨ (j ≠ i ∧ pget P j = some s)
  | [], _, _, _, _, h => by simp [pput, pget] at h
  | x :: l, 0, 0, y, s, h => Or.inl ⟨rfl, h⟩
  | x :: l, 0, j + 1, y, s, h => Or.inr ⟨by omega, h⟩
  | x :: l, i + 1, 0, y, s, h => Or.inr ⟨by omega, h⟩
  | x :: l, i + 1, j + 1, y, s, h => by
    rcases pget_pput l i j y s h with ⟨e, r⟩ | ⟨e, r⟩
    · exact Or.inl ⟨by omega, r⟩
    · exact Or.inr ⟨by omega, r⟩
/-- a two-word value whose first word is at i is forgotten -/
def pk1 (P : Pat) (i : Nat) : Pat := match pget P i with
  | some (.val (.long _)) => pput P i none
  | some (.val (.double _)) => pput P i none
  | _ => P
def pk2 (P : Pat) (i : Nat) : Pat := match pget P i with
  | some .second => pput P i none
  | _ => P
def pkp (P : Pat) : Nat → Pat
  | 0 => P
  | i + 1 => pk1 P i
def ps1 (P : Pat) (i : Nat) (v : Value) : Pat := pput (pk2 (pkp P i) (i + 1)) i (some (.val v))
def ps2 (P : Pat) (i : Nat) (v : Value) : Pat := pput (pput (pk2 (pkp P i) (i + 2)) i (some (.val v))) (i + 1) (some .second)
def WFl (L : Array Slot) : Prop := (∀ i : Nat, L[i]? = some .second → ∃ (j : Nat) (v : Value), i = j + 1 ∧ L[j]? = some (.val v) ∧ v.category = 2) ∧ (∀ (i : Nat) (v : Value), L[i]? = some (.val v) → v.category = 2 → L[i + 1]? = some .second)
def Fits (P : Pat) (L : Array Slot) : Prop := (∀ i s, pget P i = some s → L[i]? = some s) ∧ WFl L
theorem pk1_sub {P : Pat} {i j : Nat} {s : Slot} (h : pget (pk1 P i) j = some s) : pget P j = some s ∧ (j = i → ∀ w : Value, s = .val w → w.category = 1) := by
  unfold pk1 at h
  split at h
  · rcases pget_pput _ _ _ _ _ h with ⟨-, e⟩ | ⟨e, r⟩
    · cases e
    · exact ⟨r, fun q => absurd q e⟩
  · rcases pget_pput _ _ _ _ _ h with ⟨-, e⟩ | ⟨e, r⟩
    · cases e
    · exact ⟨r, fun q => absurd q e⟩
  · rename_i h1 h2
    refine ⟨h, fun q w e => ?_⟩
    subst q e
    cases w <;> first | rfl | exact absurd h (h1 _) | exact absurd h (h2 _)
theorem pk2_sub {P : Pat} {i j : Nat} {s : Slot} (h : pget (pk2 P i) j = some s) : pget P j = some s ∧ (j = i → s ≠ .second) := by
  unfold pk2 at h
  split at h
  · rcases pget_pput _ _ _ _ _ h with ⟨-, e⟩ | ⟨e, r⟩
    · cases e
    · exact ⟨r, fun q => absurd q e⟩
  · rename_i h1
    refine ⟨h, fun q e => ?_⟩
    subst q e; exact h1 h
theorem pkp_sub {P : Pat} {i j : Nat} {s : Slot} (h : pget (pkp P i) j = some s) : pget P j = some s ∧ (j + 1 = i → ∀ w : Value, s = .val w → w.category = 1) := by
  cases i with
  | zero => exact ⟨h, fun q => by omega⟩
  | succ i => obtain ⟨h1, h2⟩ := pk1_sub (show pget (pk1 P i) j = some s from h); exact ⟨h1, fun q => h2 (by omega)⟩
theorem setAt_eq {L : Array Slot} {i : Nat} {x : Slot} (hi : i < L.size) : Jvm.setAt L i x = some (L.setIfInBounds i x) := by simp [Jvm.setAt, hi]
theorem sl_second {L : Array Slot} {i : Nat} {v : Value} (ho : L[i]? = some .second) : storeLocals L i v = (Jvm.setAt L (i - 1) .unset).bind fun l => storeSelf l i v := by
  unfold storeLocals; rw [ho]; rfl
theorem sl_unset {L : Array Slot} {i : Nat} {v : Value} (ho : L[i]? = some .unset) : storeLocals L i v = storeSelf L i v := by
  unfold storeLocals; rw [ho]; rfl
theorem sl_val {L : Array Slot} {i : Nat} {v o : Value} (ho : L[i]? = some (.val o)) : storeLocals L i v = if o.category = 2 then (Jvm.setAt L (i + 1) .unset).bind fun l => storeSelf l i v else storeSelf L i v := by
  unfold storeLocals; rw [ho]; rfl
theorem ss_one {L : Array Slot} {i : Nat} {v : Value} (hi : i < L.size) (hv : ¬ v.category = 2) : storeSelf L i v = some (L.setIfInBounds i (.val v)) := by
  unfold storeSelf; rw [setAt_eq hi]; simp [hv]
theorem ss_two {L : Array Slot} {i : Nat} {v : Value} {o : Slot} (hi : i < L.size) (hv : v.category = 2) (ho : L[i + 1]? = some o) : storeSelf L i v = (match o with
    | .val old => if old.category = 2 then (Jvm.setAt (L.setIfInBounds i (.val v)) (i + 2) .unset).bind fun l => Jvm.setAt l (i + 1) .second else Jvm.setAt (L.setIfInBounds i (.val v)) (i + 1) .second
    | _ => Jvm.setAt (L.setIfInBounds i (.val v)) (i + 1) .second) := by
  have e : (L.setIfInBounds i (.val v))[i + 1]? = some o := by rw [Array.getElem?_setIfInBounds_ne (by omega)]; exact ho
  unfold storeSelf; rw [setAt_eq hi]
  show (if v.category = 2 then _ else _) = _
  rw [if_pos hv, e]
  cases o <;> rfl
theorem cat12 (v : Value) : v.category = 1 ∨ v.category = 2 := by cases v <;> first | exact Or.inl rfl | exact Or.inr rfl
/-- a one-word store: what stands elsewhere stays, but for the halves of a two-word value that it breaks -/
theorem store_one {L : Array Slot} {i : Nat} {v : Value} (hW : WFl L) (hi : i < L.size) (hv : v.category = 1) :
    ∃ L', storeLocals L i v = some L' ∧ L'.size = L.size ∧ WFl L' ∧ L'[i]? = some (.val v) ∧ ∀ j, j ≠ i → L'[j]? = L[j]? ∨ (j + 1 = i ∧ L[i]? = some .second) ∨ (j = i + 1 ∧ L[j]? = some .second) := by
  have hv2 : ¬ v.category = 2 := by omega
  cases ho : L[i]? with
  | none => rw [Array.getElem?_eq_none_iff] at ho; omega
  | some o =>
    cases o with
    | unset =>
      refine ⟨L.setIfInBounds i (.val v), ?_, by simp, ?_, by simp [hi], fun j hj => Or.inl (Array.getElem?_setIfInBounds_ne (Ne.symm hj))⟩
      · rw [sl_unset ho, ss_one hi hv2]
      · refine ⟨fun j hj => ?_, fun j w hj hw => ?_⟩
        · by_cases e : j = i
          · subst e; simp [hi] at hj
          · rw [Array.getElem?_setIfInBounds_ne (Ne.symm e)] at hj
            obtain ⟨j', w, e1, e2, e3⟩ := hW.1 j hj
            refine ⟨j', w, e1, ?_, e3⟩
            rw [Array.getElem?_setIfInBounds_ne]; exact e2
            intro q; subst q; rw [ho] at e2; cases e2
        · by_cases e : j = i
          · subst e; simp [hi] at hj; subst hj; omega
          · rw [Array.getElem?_setIfInBounds_ne (Ne.symm e)] at hj
            have := hW.2 j w hj hw
            rw [Array.getElem?_setIfInBounds_ne]; exact this
            intro q; subst q; rw [ho] at this; cases this
    | second =>
      obtain ⟨j0, w0, rfl, f2, f3⟩ := hW.1 i ho
      have hj0 : j0 < L.size := by omega
      refine ⟨(L.setIfInBounds j0 .unset).setIfInBounds (j0 + 1) (.val v), ?_, by simp, ?_, by simp [hi], fun j hj => ?_⟩
      · rw [sl_second ho, show j0 + 1 - 1 = j0 from rfl, setAt_eq hj0]; exact ss_one (by simpa using hi) hv2
      · refine ⟨fun j hj => ?_, fun j w hj hw => ?_⟩
        · by_cases e : j = j0 + 1
          · subst e; simp [hi] at hj
          · rw [Array.getElem?_setIfInBounds_ne (Ne.symm e)] at hj
            by_cases e' : j = j0
            · subst e'; simp [hj0] at hj
            · rw [Array.getElem?_setIfInBounds_ne (Ne.symm e')] at hj
              obtain ⟨j', w, e1, e2, e3⟩ := hW.1 j hj
              refine ⟨j', w, e1, ?_, e3⟩
              rw [Array.getElem?_setIfInBounds_ne, Array.getElem?_setIfInBounds_ne]
              · exact e2
              · intro q; subst q; omega
              · intro q; subst q; rw [ho] at e2; cases e2
        · by_cases e : j = j0 + 1
          · subst e; simp [hi] at hj; subst hj; omega
          · rw [Array.getElem?_setIfInBounds_ne (Ne.symm e)] at hj
            by_cases e' : j = j0
            · subst e'; simp [hj0] at hj
            · rw [Array.getElem?_setIfInBounds_ne (Ne.symm e')] at hj
              have := hW.2 j w hj hw
              rw [Array.getElem?_setIfInBounds_ne, Array.getElem?_setIfInBounds_ne]
              · exact this
              · intro q; subst q; rw [f2] at this; cases this
              · omega
      · by_cases e' : j = j0
        · exact Or.inr (Or.inl ⟨by omega, rfl⟩)
        · left; rw [Array.getElem?_setIfInBounds_ne (Ne.symm hj), Array.getElem?_setIfInBounds_ne (Ne.symm e')]
    | val old =>
      by_cases hc : old.category = 2
      · have f2 := hW.2 i old ho hc
        have hi1 : i + 1 < L.size := (Array.getElem?_eq_some_iff.mp f2).1
        refine ⟨(L.setIfInBounds (i + 1) .unset).setIfInBounds i (.val v), ?_, by simp, ?_, by simp [hi], fun j hj => ?_⟩
        · rw [sl_val ho, if_pos hc, setAt_eq hi1]; exact ss_one (by simpa using hi) hv2
        · refine ⟨fun j hj => ?_, fun j w hj hw => ?_⟩
          · by_cases e : j = i
            · subst e; simp [hi] at hj
            · rw [Array.getElem?_setIfInBounds_ne (Ne.symm e)] at hj
              by_cases e' : j = i + 1
              · subst e'; simp [hi1] at hj
              · rw [Array.getElem?_setIfInBounds_ne (Ne.symm e')] at hj
                obtain ⟨j', w, e1, e2, e3⟩ := hW.1 j hj
                refine ⟨j', w, e1, ?_, e3⟩
                rw [Array.getElem?_setIfInBounds_ne, Array.getElem?_setIfInBounds_ne]
                · exact e2
                · intro q; subst q; rw [f2] at e2; cases e2
                · omega
          · by_cases e : j = i
            · subst e; simp [hi] at hj; subst hj; omega
            · rw [Array.getElem?_setIfInBounds_ne (Ne.symm e)] at hj
              by_cases e' : j = i + 1
              · subst e'; simp [hi1] at hj
              · rw [Array.getElem?_setIfInBounds_ne (Ne.symm e')] at hj
                have := hW.2 j w hj hw
                rw [Array.getElem?_setIfInBounds_ne, Array.getElem?_setIfInBounds_ne]
                · exact this
                · omega
                · intro q; subst q; rw [ho] at this; cases this
        · by_cases e' : j = i + 1
          · subst e'; exact Or.inr (Or.inr ⟨rfl, f2⟩)
          · left; rw [Array.getElem?_setIfInBounds_ne (Ne.symm hj), Array.getElem?_setIfInBounds_ne (Ne.symm e')]
      · refine ⟨L.setIfInBounds i (.val v), ?_, by simp, ?_, by simp [hi], fun j hj => Or.inl (Array.getElem?_setIfInBounds_ne (Ne.symm hj))⟩
        · rw [sl_val ho, if_neg hc, ss_one hi hv2]
        · refine ⟨fun j hj => ?_, fun j w hj hw => ?_⟩
          · by_cases e : j = i
            · subst e; simp [hi] at hj
            · rw [Array.getElem?_setIfInBounds_ne (Ne.symm e)] at hj
              obtain ⟨j', w, e1, e2, e3⟩ := hW.1 j hj
              refine ⟨j', w, e1, ?_, e3⟩
              rw [Array.getElem?_setIfInBounds_ne]; exact e2
              intro q; subst q; rw [ho] at e2; cases e2; omega
          · by_cases e : j = i
            · subst e; simp [hi] at hj; subst hj; omega
            · rw [Array.getElem?_setIfInBounds_ne (Ne.symm e)] at hj
              have := hW.2 j w hj hw
              rw [Array.getElem?_setIfInBounds_ne]; exact this
              intro q; subst q; rw [ho] at this; cases this
theorem Fits.store1 {P : Pat} {L : Array Slot} {i : Nat} {v : Value} (h : Fits P L) (hi : i < L.size) (hv : v.category = 1) :
    ∃ L', storeLocals L i v = some L' ∧ L'.size = L.size ∧ Fits (ps1 P i v) L' := by
  obtain ⟨L', e1, e2, e3, e4, e5⟩ := store_one h.2 hi hv
  refine ⟨L', e1, e2, fun j s hj => ?_, e3⟩
  rcases pget_pput _ _ _ _ _ hj with ⟨rfl, q⟩ | ⟨ne, q⟩
  · rw [e4]; exact q
  · obtain ⟨q1, q2⟩ := pk2_sub q
    obtain ⟨q3, q4⟩ := pkp_sub q1
    have hL := h.1 j s q3
    rcases e5 j ne with r | ⟨r1, r2⟩ | ⟨r1, r2⟩
    · rw [r]; exact hL
    · obtain ⟨j', w, z1, z2, z3⟩ := h.2.1 i r2
      have : j' = j := by omega
      subst this
      rw [hL] at z2; cases z2
      have := q4 r1 w rfl; omega
    · rw [hL] at r2; cases r2
      exact absurd rfl (q2 r1)
theorem st_ph1 {L : Array Slot} {i : Nat} {v : Value} (hW : WFl L) (hi : i + 1 < L.size) :
    ∃ A : Array Slot, storeLocals L i v = storeSelf A i v ∧ A.size = L.size ∧ (∀ j, j ≠ i → j ≠ i + 1 → A[j]? = L[j]? ∨ (j + 1 = i ∧ L[i]? = some .second ∧ A[j]? = some .unset)) ∧ (A[i + 1]? = L[i + 1]? ∨ (A[i + 1]? = some .unset ∧ L[i + 1]? = some .second)) ∧ (L[i]? = some .second → ∀ j, j + 1 = i → A[j]? = some .unset) := by
  have hi0 : i < L.size := by omega
  cases ho : L[i]? with
  | none => rw [Array.getElem?_eq_none_iff] at ho; omega
  | some o =>
    cases o with
    | unset => exact ⟨L, sl_unset ho, rfl, fun j _ _ => Or.inl rfl, Or.inl rfl, fun q => by cases q⟩
    | second =>
      obtain ⟨j0, w0, rfl, f2, f3⟩ := hW.1 i ho
      have hj0 : j0 < L.size := by omega
      refine ⟨L.setIfInBounds j0 .unset, by rw [sl_second ho, show j0 + 1 - 1 = j0 from rfl, setAt_eq hj0]; rfl, by simp, fun j h1 h2 => ?_, Or.inl (Array.getElem?_setIfInBounds_ne (by omega)), fun _ j hj => ?_⟩
      · by_cases e : j = j0
        · subst e; exact Or.inr ⟨rfl, rfl, by simp [hj0]⟩
        · exact Or.inl (Array.getElem?_setIfInBounds_ne (Ne.symm e))
      · have : j = j0 := by omega
        subst this; simp [hj0]
    | val old =>
      by_cases hc : old.category = 2
      · refine ⟨L.setIfInBounds (i + 1) .unset, by rw [sl_val ho, if_pos hc, setAt_eq hi]; rfl, by simp, fun j h1 h2 => Or.inl (Array.getElem?_setIfInBounds_ne (Ne.symm h2)), Or.inr ⟨by simp [hi], hW.2 i old ho hc⟩, fun q => by cases q⟩
      · exact ⟨L, by rw [sl_val ho, if_neg hc], rfl, fun j _ _ => Or.inl rfl, Or.inl rfl, fun q => by cases q⟩
theorem st_ph2 {A : Array Slot} {i : Nat} {v : Value} (hi : i + 1 < A.size) (hv : v.category = 2) (hn : ∀ w : Value, A[i + 1]? = some (.val w) → w.category = 2 → i + 2 < A.size) :
    ∃ L', storeSelf A i v = some L' ∧ L'.size = A.size ∧ L'[i]? = some (.val v) ∧ L'[i + 1]? = some .second ∧ (∀ j, j ≠ i → j ≠ i + 1 → L'[j]? = A[j]? ∨ (j = i + 2 ∧ L'[j]? = some .unset ∧ ∃ w : Value, A[i + 1]? = some (.val w) ∧ w.category = 2)) ∧ ((∃ w : Value, A[i + 1]? = some (.val w) ∧ w.category = 2) → L'[i + 2]? = some .unset) := by
  have hi0 : i < A.size := by omega
  have eB : (A.setIfInBounds i (.val v))[i + 1]? = A[i + 1]? := Array.getElem?_setIfInBounds_ne (by omega)
  have plain : (∀ w : Value, A[i + 1]? = some (.val w) → w.category ≠ 2) → storeSelf A i v = some ((A.setIfInBounds i (.val v)).setIfInBounds (i + 1) .second) := fun hq => by
    cases ho : A[i + 1]? with
    | none => rw [Array.getElem?_eq_none_iff] at ho; omega
    | some o => cases o with
      | unset => rw [ss_two hi0 hv ho]; exact setAt_eq (by simpa using hi)
      | second => rw [ss_two hi0 hv ho]; exact setAt_eq (by simpa using hi)
      | val w => have := hq w ho; rw [ss_two hi0 hv ho]; simp only [if_neg this]; exact setAt_eq (by simpa using hi)
  by_cases hw : ∃ w : Value, A[i + 1]? = some (.val w) ∧ w.category = 2
  · obtain ⟨w, h1, h2⟩ := hw
    have h3 := hn w h1 h2
    refine ⟨((A.setIfInBounds i (.val v)).setIfInBounds (i + 2) .unset).setIfInBounds (i + 1) .second, by rw [ss_two hi0 hv h1]; simp only [if_pos h2]; rw [setAt_eq (by simpa using h3)]; exact setAt_eq (by simpa using hi), by simp, ?_, by simp [hi], fun j a b => ?_, fun _ => ?_⟩
    · rw [Array.getElem?_setIfInBounds_ne (by omega), Array.getElem?_setIfInBounds_ne (by omega)]; simp [hi0]
    · rw [Array.getElem?_setIfInBounds_ne (by omega)]
      by_cases e : j = i + 2
      · subst e; exact Or.inr ⟨rfl, by simp [h3], w, h1, h2⟩
      · left; rw [Array.getElem?_setIfInBounds_ne (by omega), Array.getElem?_setIfInBounds_ne (by omega)]
    · rw [Array.getElem?_setIfInBounds_ne (by omega)]; simp [h3]
  · refine ⟨_, plain fun w h1 h2 => hw ⟨w, h1, h2⟩, by simp, ?_, by simp [hi], fun j a b => Or.inl ?_, fun q => absurd q hw⟩
    · rw [Array.getElem?_setIfInBounds_ne (by omega)]; simp [hi0]
    · rw [Array.getElem?_setIfInBounds_ne (by omega), Array.getElem?_setIfInBounds_ne (by omega)]
theorem store_two {L : Array Slot} {i : Nat} {v : Value} (hW : WFl L) (hi : i + 1 < L.size) (hv : v.category = 2) :
    ∃ L', storeLocals L i v = some L' ∧ L'.size = L.size ∧ WFl L' ∧ L'[i]? = some (.val v) ∧ L'[i + 1]? = some .second ∧ ∀ j, j ≠ i → j ≠ i + 1 → L'[j]? = L[j]? ∨ (j + 1 = i ∧ L[i]? = some .second) ∨ (j = i + 2 ∧ L[j]? = some .second) := by
  obtain ⟨A, a1, a2, a3, a4, a5⟩ := st_ph1 (v := v) hW hi
  have a6 : ∀ w : Value, A[i + 1]? = some (.val w) → w.category = 2 → L[i + 2]? = some .second := fun w h1 h2 => by
    rcases a4 with e | ⟨e, -⟩
    · rw [e] at h1; exact hW.2 _ _ h1 h2
    · rw [e] at h1; cases h1
  obtain ⟨L', b1, b2, b3, b4, b5, b6⟩ := st_ph2 (A := A) (i := i) (v := v) (by omega) hv (fun w h1 h2 => by have := (Array.getElem?_eq_some_iff.mp (a6 w h1 h2)).1; omega)
  have c : ∀ j, j ≠ i → j ≠ i + 1 → L'[j]? = L[j]? ∨ (j + 1 = i ∧ L[i]? = some .second ∧ L'[j]? = some .unset) ∨ (j = i + 2 ∧ L[j]? = some .second ∧ L'[j]? = some .unset) := fun j h1 h2 => by
    rcases b5 j h1 h2 with e | ⟨e1, e2, w, e3, e4⟩
    · rcases a3 j h1 h2 with r | ⟨r1, r2, r3⟩
      · exact Or.inl (e.trans r)
      · exact Or.inr (Or.inl ⟨r1, r2, e.trans r3⟩)
    · subst e1; exact Or.inr (Or.inr ⟨rfl, a6 w e3 e4, e2⟩)
  have cs : L[i]? = some .second → ∀ j, j + 1 = i → L'[j]? = some .unset := fun q j hj => by
    rcases b5 j (by omega) (by omega) with e | ⟨e1, -⟩
    · exact e.trans (a5 q j hj)
    · omega
  have c2 : L[i + 2]? = some .second → L'[i + 2]? = some .unset := fun q => by
    obtain ⟨j', w, z1, z2, z3⟩ := hW.1 _ q
    have : j' = i + 1 := by omega
    subst this
    rcases a4 with e | ⟨-, e⟩
    · exact b6 ⟨w, e.trans z2, z3⟩
    · rw [e] at z2; cases z2
  refine ⟨L', a1.trans b1, b2.trans a2, ⟨fun j hj => ?_, fun j w hj hw => ?_⟩, b3, b4, fun j h1 h2 => ?_⟩
  · by_cases e0 : j = i
    · subst e0; rw [b3] at hj; cases hj
    by_cases e1 : j = i + 1
    · exact ⟨i, v, e1, b3, hv⟩
    rcases c j e0 e1 with r | ⟨-, -, r⟩ | ⟨-, -, r⟩
    · rw [r] at hj
      obtain ⟨j', w, z1, z2, z3⟩ := hW.1 j hj
      refine ⟨j', w, z1, ?_, z3⟩
      have n0 : j' ≠ i := by omega
      by_cases n1 : j' = i + 1
      · have : j = i + 2 := by omega
        subst this
        rw [c2 hj] at r; rw [hj] at r; cases r
      rcases c j' n0 n1 with u | ⟨u, -, -⟩ | ⟨-, u, -⟩
      · exact u.trans z2
      · omega
      · rw [z2] at u; cases u
    · rw [r] at hj; cases hj
    · rw [r] at hj; cases hj
  · by_cases e0 : j = i
    · subst e0; exact b4
    by_cases e1 : j = i + 1
    · subst e1; rw [b4] at hj; cases hj
    rcases c j e0 e1 with r | ⟨-, -, r⟩ | ⟨-, -, r⟩
    · have hj' := hj
      rw [r] at hj
      have z := hW.2 j w hj hw
      by_cases n0 : j + 1 = i
      · subst n0; rw [cs z j rfl] at hj'; cases hj'
      by_cases n1 : j + 1 = i + 1
      · omega
      rcases c (j + 1) n0 n1 with u | ⟨u1, u2, -⟩ | ⟨u, -, -⟩
      · exact u.trans z
      · obtain ⟨j', w', y1, y2, y3⟩ := hW.1 i u2
        have : j' = j + 1 := by omega
        subst this; rw [z] at y2; cases y2
      · omega
    · rw [r] at hj; cases hj
    · rw [r] at hj; cases hj
  · rcases c j h1 h2 with r | ⟨r1, r2, -⟩ | ⟨r1, r2, -⟩
    · exact Or.inl r
    · exact Or.inr (Or.inl ⟨r1, r2⟩)
    · exact Or.inr (Or.inr ⟨r1, r2⟩)
theorem Fits.store2 {P : Pat} {L : Array Slot} {i : Nat} {v : Value} (h : Fits P L) (hi : i + 1 < L.size) (hv : v.category = 2) :
    ∃ L', storeLocals L i v = some L' ∧ L'.size = L.size ∧ Fits (ps2 P i v) L' := by
  obtain ⟨L', e1, e2, e3, e4, e4', e5⟩ := store_two h.2 hi hv
  refine ⟨L', e1, e2, fun j s hj => ?_, e3⟩
  rcases pget_pput _ _ _ _ _ hj with ⟨rfl, q⟩ | ⟨ne, q⟩
  · rw [e4']; exact q
  rcases pget_pput _ _ _ _ _ q with ⟨rfl, q'⟩ | ⟨ne', q'⟩
  · rw [e4]; exact q'
  obtain ⟨q1, q2⟩ := pk2_sub q'
  obtain ⟨q3, q4⟩ := pkp_sub q1
  have hL := h.1 j s q3
  rcases e5 j ne' ne with r | ⟨r1, r2⟩ | ⟨r1, r2⟩
  · rw [r]; exact hL
  · obtain ⟨j', w, z1, z2, z3⟩ := h.2.1 i r2
    have : j' = j := by omega
    subst this
    rw [hL] at z2; cases z2
    have := q4 r1 w rfl; omega
  · rw [hL] at r2; cases r2
    exact absurd rfl (q2 r1)
/- what a body does from a place on -/
def Runs (C : Ctx) (M : Bdy) (k n pc : Nat) (P : Pat) (S : List Value) (G : AH) (Q : Option Value → AH → Prop) : Prop :=
  Ok C → ∀ (p : Program) (e : Env) (s : State) (m : MethodId) (args : Array Value) (below : List Frame) (meth : Method) (c : Code) (T : State) (locs : List Loc) (L : Array Slot),
    p.tables.exec = Jvm.exec → c.code = M.2.1 → c.maxLocals = M.2.2.1 → meth.sig.returnType = M.2.2.2.1 → meth.name = M.1.name → s.vm.findClass M.1.cls = some m.cls → C.2.1.Warmed39 s.vm →
    Fits P L → L.size = M.2.2.1 → Stand p C.1 e M.2.2.2.2 s m args below meth c T locs k n → Rep C.2.1 C.2.2.1 T.heap G → Fr C.2.2.1 locs →
    ∃ (T' : State) (locs' : List Loc) (k' n' : Nat) (r : Option Value) (G' : AH), Stand p C.1 e M.2.2.2.2 s m args below meth c T' locs' k' n' ∧ k' ≤ M.2.2.2.2.cells ∧ n' ≤ M.2.2.2.2.slots ∧ Rep C.2.1 C.2.2.1 T'.heap G' ∧ Fr C.2.2.1 locs' ∧ Q r G' ∧
      (M.2.2.2.1 = none → r = none) ∧
      ∀ fs : List Frame, (∀ (f : JFrame) (acts : List Action), f.method = m → f.locked = none → f.entered = [] → (doReturn e (T'.setTop f) acts r).1 = T'.setFrames fs) → Steps p.tables e below (T.setTop (mkF m pc L S)) (T'.setFrames fs)
section Rules
variable {C : Ctx} {M : Bdy} {k n pc q : Nat} {P P' : Pat} {S S' : List Value} {G : AH} {Q : Option Value → AH → Prop}
/-- a step that leaves the heap alone -/
theorem Runs.pure {i : Instr} {len : Nat} (d : DAt M pc i len q) {pc' : Nat}
    (st : ∀ (p : Program) (e : Env) (s : State) (m : MethodId) (args : Array Value) (below : List Frame) (meth : Method) (c : Code) (T : State) (locs : List Loc) (L : Array Slot), Ok C → p.tables.exec = Jvm.exec → s.vm.findClass M.1.cls = some m.cls → C.2.1.Warmed39 s.vm → decode c.code pc = .ok (i, len) → Fits P L → L.size = M.2.2.1 → Rep C.2.1 C.2.2.1 T.heap G →
      Stand p C.1 e M.2.2.2.2 s m args below meth c T locs k n → ∃ L', Fits P' L' ∧ L'.size = M.2.2.1 ∧ ∀ t, Steps p.tables e below (T.setTop (mkF m pc' L' S')) t → Steps p.tables e below (T.setTop (mkF m pc L S)) t)
    (h : Runs C M k n pc' P' S' G Q) : Runs C M k n pc P S G Q := by
  intro hw p e s m args below meth c T locs L hx hby hml hret hnm hown hZ hP hsz X hR hF
  obtain ⟨L', f1, f2, f3⟩ := st p e s m args below meth c T locs L hw hx hown hZ (hb hby d.1) hP hsz hR X
  obtain ⟨T', locs', k', n', r, G', g1, g2, g3, g4, g5, g6, g7, g8⟩ := h hw p e s m args below meth c T locs L' hx hby hml hret hnm hown hZ f1 f2 X hR hF
  exact ⟨T', locs', k', n', r, G', g1, g2, g3, g4, g5, g6, g7, fun fs hr => f3 _ (g8 fs hr)⟩
/-- a step that keeps the locals and what the heap says -/
theorem Runs.stk {i : Instr} {len : Nat} (d : DAt M pc i len q)
    (st : ∀ (p : Program) (e : Env) (s : State) (m : MethodId) (args : Array Value) (below : List Frame) (meth : Method) (c : Code) (T : State) (locs : List Loc) (L : Array Slot), p.tables.exec = Jvm.exec → decode c.code pc = .ok (i, len) → Fits P L →
      Stand p C.1 e M.2.2.2.2 s m args below meth c T locs k n → ∀ t, Steps p.tables e below (T.setTop (mkF m (pc + len) L S')) t → Steps p.tables e below (T.setTop (mkF m pc L S)) t)
    (h : Runs C M k n q P S' G Q) : Runs C M k n pc P S G Q := by
  have hq := d.2
  subst hq
  exact Runs.pure d (fun p e s m args below meth c T locs L _ hx _ _ hd hP hsz _ X => ⟨L, hP, hsz, st p e s m args below meth c T locs L hx hd hP X⟩) h
theorem Runs.iloadN {j : Fin 4} {v : Int32} (d : DAt M pc (.iload_n j) 1 q) (hl : pget P j.val = vi v) (h : Runs C M k n q P (.int v :: S) G Q) : Runs C M k n pc P S G Q :=
  Runs.stk d (fun p e s m args below meth c T locs L hx hd hP X t r => XS.iloadN (g := mkF m pc L S) X.here hx rfl hd (hP.1 _ _ hl) r) h
theorem Runs.iload {j : Nat} {v : Int32} (d : DAt M pc (.iload j) 2 q) (hl : pget P j = vi v) (h : Runs C M k n q P (.int v :: S) G Q) : Runs C M k n pc P S G Q :=
  Runs.stk d (fun p e s m args below meth c T locs L hx hd hP X t r => XS.iload (g := mkF m pc L S) X.here hx rfl hd (hP.1 _ _ hl) r) h
theorem Runs.lloadN {j : Fin 4} {v : Int64} (d : DAt M pc (.lload_n j) 1 q) (hl : pget P j.val = vl v) (h : Runs C M k n q P (.long v :: S) G Q) : Runs C M k n pc P S G Q :=
  Runs.stk d (fun p e s m args below meth c T locs L hx hd hP X t r => XS.lloadN (g := mkF m pc L S) X.here hx rfl hd (hP.1 _ _ hl) r) h
theorem Runs.lload {j : Nat} {v : Int64} (d : DAt M pc (.lload j) 2 q) (hl : pget P j = vl v) (h : Runs C M k n q P (.long v :: S) G Q) : Runs C M k n pc P S G Q :=
  Runs.stk d (fun p e s m args below meth c T locs L hx hd hP X t r => XS.lload (g := mkF m pc L S) X.here hx rfl hd (hP.1 _ _ hl) r) h
theorem Runs.aloadN {j : Fin 4} {v : Nat} (d : DAt M pc (.aload_n j) 1 q) (hl : pget P j.val = vr v) (h : Runs C M k n q P (.ref v :: S) G Q) : Runs C M k n pc P S G Q :=
  Runs.stk d (fun p e s m args below meth c T locs L hx hd hP X t r => XS.aloadN (g := mkF m pc L S) X.here hx rfl hd (hP.1 _ _ hl) rfl r) h
theorem Runs.aload {j : Nat} {v : Nat} (d : DAt M pc (.aload j) 2 q) (hl : pget P j = vr v) (h : Runs C M k n q P (.ref v :: S) G Q) : Runs C M k n pc P S G Q :=
  Runs.stk d (fun p e s m args below meth c T locs L hx hd hP X t r => XS.aload (g := mkF m pc L S) X.here hx rfl hd (hP.1 _ _ hl) rfl r) h
theorem Runs.iconst {i : Int} {v : Int32} (d : DAt M pc (.iconst i) 1 q) (hv : Int32.ofInt i = v) (h : Runs C M k n q P (.int v :: S) G Q) : Runs C M k n pc P S G Q :=
  Runs.stk d (fun p e s m args below meth c T locs L hx hd hP X t r => XS.iconst (g := mkF m pc L S) X.here hx rfl hd (by rw [hv]; exact r)) h
theorem Runs.bipush {i : Int} {v : Int32} (d : DAt M pc (.bipush i) 2 q) (hv : (Int8.ofInt i).toInt32 = v) (h : Runs C M k n q P (.int v :: S) G Q) : Runs C M k n pc P S G Q :=
  Runs.stk d (fun p e s m args below meth c T locs L hx hd hP X t r => XS.bipush (g := mkF m pc L S) X.here hx rfl hd (by rw [hv]; exact r)) h
theorem Runs.sipush {i : Int} {v : Int32} (d : DAt M pc (.sipush i) 3 q) (hv : (Int16.ofInt i).toInt32 = v) (h : Runs C M k n q P (.int v :: S) G Q) : Runs C M k n pc P S G Q :=
  Runs.stk d (fun p e s m args below meth c T locs L hx hd hP X t r => XS.sipush (g := mkF m pc L S) X.here hx rfl hd (by rw [hv]; exact r)) h
theorem Runs.lconst {i : Fin 2} {v : Int64} (d : DAt M pc (.lconst i) 1 q) (hv : Int64.ofNat i = v) (h : Runs C M k n q P (.long v :: S) G Q) : Runs C M k n pc P S G Q :=
  Runs.stk d (fun p e s m args below meth c T locs L hx hd hP X t r => Jvm.Free.XT.lconstV (g := mkF m pc L S) X.here hx rfl v hd hv r) h
theorem Runs.ldc {i : Nat} {v : Int32} (d : DAt M pc (.ldc i) 2 q) (w : Jvm.Cond.constant M.1.cls i v ∈ tables_1) (h : Runs C M k n q P (.int v :: S) G Q) : Runs C M k n pc P S G Q := by
  have hq := d.2
  subst hq
  exact Runs.pure d (fun p e s m args below meth c T locs L hw hx hown hZ hd hP hsz _ X => ⟨L, hP, hsz, fun t r => X.ldcInt hx hown (mvT hZ (hw _ w)) (g := mkF m pc L S) rfl hd t r⟩) h
theorem Runs.ldc2 {i : Nat} {v : Int64} (d : DAt M pc (.ldc2_w i) 3 q) (w : Jvm.Cond.constantLong M.1.cls i v ∈ tables_1) (h : Runs C M k n q P (.long v :: S) G Q) : Runs C M k n pc P S G Q := by
  have hq := d.2
  subst hq
  exact Runs.pure d (fun p e s m args below meth c T locs L hw hx hown hZ hd hP hsz _ X => ⟨L, hP, hsz, fun t r => X.ldc2Long hx hown (mvT hZ (hw _ w)) (g := mkF m pc L S) rfl hd t r⟩) h
theorem Runs.iadd {x y : Int32} (d : DAt M pc .iadd 1 q) (h : Runs C M k n q P (.int (x + y) :: S) G Q) : Runs C M k n pc P (.int y :: .int x :: S) G Q :=
  Runs.stk d (fun p e s m args below meth c T locs L hx hd hP X t r => XS.iadd (g := mkF m pc L (.int y :: .int x :: S)) X.here hx rfl hd rfl r) h
theorem Runs.isub {x y : Int32} (d : DAt M pc .isub 1 q) (h : Runs C M k n q P (.int (x - y) :: S) G Q) : Runs C M k n pc P (.int y :: .int x :: S) G Q :=
  Runs.stk d (fun p e s m args below meth c T locs L hx hd hP X t r => XS.isub (g := mkF m pc L (.int y :: .int x :: S)) X.here hx rfl hd rfl r) h
theorem Runs.imul {x y : Int32} (d : DAt M pc .imul 1 q) (h : Runs C M k n q P (.int (x * y) :: S) G Q) : Runs C M k n pc P (.int y :: .int x :: S) G Q :=
  Runs.stk d (fun p e s m args below meth c T locs L hx hd hP X t r => XS.imul (g := mkF m pc L (.int y :: .int x :: S)) X.here hx rfl hd rfl r) h
theorem Runs.iand {x y : Int32} (d : DAt M pc .iand 1 q) (h : Runs C M k n q P (.int (x &&& y) :: S) G Q) : Runs C M k n pc P (.int y :: .int x :: S) G Q :=
  Runs.stk d (fun p e s m args below meth c T locs L hx hd hP X t r => XS.iand (g := mkF m pc L (.int y :: .int x :: S)) X.here hx rfl hd rfl r) h
theorem Runs.ior {x y : Int32} (d : DAt M pc .ior 1 q) (h : Runs C M k n q P (.int (x ||| y) :: S) G Q) : Runs C M k n pc P (.int y :: .int x :: S) G Q :=
  Runs.stk d (fun p e s m args below meth c T locs L hx hd hP X t r => XS.ior (g := mkF m pc L (.int y :: .int x :: S)) X.here hx rfl hd rfl r) h
theorem Runs.ixor {x y : Int32} (d : DAt M pc .ixor 1 q) (h : Runs C M k n q P (.int (x ^^^ y) :: S) G Q) : Runs C M k n pc P (.int y :: .int x :: S) G Q :=
  Runs.stk d (fun p e s m args below meth c T locs L hx hd hP X t r => XS.ixor (g := mkF m pc L (.int y :: .int x :: S)) X.here hx rfl hd rfl r) h
theorem Runs.ladd {x y : Int64} (d : DAt M pc .ladd 1 q) (h : Runs C M k n q P (.long (x + y) :: S) G Q) : Runs C M k n pc P (.long y :: .long x :: S) G Q :=
  Runs.stk d (fun p e s m args below meth c T locs L hx hd hP X t r => XS.ladd (g := mkF m pc L (.long y :: .long x :: S)) X.here hx rfl hd rfl r) h
theorem Runs.lsub {x y : Int64} (d : DAt M pc .lsub 1 q) (h : Runs C M k n q P (.long (x - y) :: S) G Q) : Runs C M k n pc P (.long y :: .long x :: S) G Q :=
  Runs.stk d (fun p e s m args below meth c T locs L hx hd hP X t r => XS.lsub (g := mkF m pc L (.long y :: .long x :: S)) X.here hx rfl hd rfl r) h
theorem Runs.lmul {x y : Int64} (d : DAt M pc .lmul 1 q) (h : Runs C M k n q P (.long (x * y) :: S) G Q) : Runs C M k n pc P (.long y :: .long x :: S) G Q :=
  Runs.stk d (fun p e s m args below meth c T locs L hx hd hP X t r => XS.lmul (g := mkF m pc L (.long y :: .long x :: S)) X.here hx rfl hd rfl r) h
theorem Runs.land {x y : Int64} (d : DAt M pc .land 1 q) (h : Runs C M k n q P (.long (x &&& y) :: S) G Q) : Runs C M k n pc P (.long y :: .long x :: S) G Q :=
  Runs.stk d (fun p e s m args below meth c T locs L hx hd hP X t r => XS.land (g := mkF m pc L (.long y :: .long x :: S)) X.here hx rfl hd rfl r) h
theorem Runs.lor {x y : Int64} (d : DAt M pc .lor 1 q) (h : Runs C M k n q P (.long (x ||| y) :: S) G Q) : Runs C M k n pc P (.long y :: .long x :: S) G Q :=
  Runs.stk d (fun p e s m args below meth c T locs L hx hd hP X t r => XS.lor (g := mkF m pc L (.long y :: .long x :: S)) X.here hx rfl hd rfl r) h
theorem Runs.lxor {x y : Int64} (d : DAt M pc .lxor 1 q) (h : Runs C M k n q P (.long (x ^^^ y) :: S) G Q) : Runs C M k n pc P (.long y :: .long x :: S) G Q :=
  Runs.stk d (fun p e s m args below meth c T locs L hx hd hP X t r => XS.lxor (g := mkF m pc L (.long y :: .long x :: S)) X.here hx rfl hd rfl r) h
theorem Runs.ishl {x : Int32} {y : Int32} (d : DAt M pc .ishl 1 q) (h : Runs C M k n q P (.int (x <<< (y &&& 31)) :: S) G Q) : Runs C M k n pc P (.int y :: .int x :: S) G Q :=
  Runs.stk d (fun p e s m args below meth c T locs L hx hd hP X t r => XS.ishl (g := mkF m pc L (.int y :: .int x :: S)) X.here hx rfl hd rfl r) h
theorem Runs.ishr {x : Int32} {y : Int32} (d : DAt M pc .ishr 1 q) (h : Runs C M k n q P (.int (x >>> (y &&& 31)) :: S) G Q) : Runs C M k n pc P (.int y :: .int x :: S) G Q :=
  Runs.stk d (fun p e s m args below meth c T locs L hx hd hP X t r => XS.ishr (g := mkF m pc L (.int y :: .int x :: S)) X.here hx rfl hd rfl r) h
theorem Runs.iushr {x : Int32} {y : Int32} (d : DAt M pc .iushr 1 q) (h : Runs C M k n q P (.int ((x.toUInt32 >>> (y &&& 31).toUInt32).toInt32) :: S) G Q) : Runs C M k n pc P (.int y :: .int x :: S) G Q :=
  Runs.stk d (fun p e s m args below meth c T locs L hx hd hP X t r => XS.iushr (g := mkF m pc L (.int y :: .int x :: S)) X.here hx rfl hd rfl r) h
theorem Runs.lshl {x : Int64} {y : Int32} (d : DAt M pc .lshl 1 q) (h : Runs C M k n q P (.long (x <<< (y &&& 0x3f).toInt64) :: S) G Q) : Runs C M k n pc P (.int y :: .long x :: S) G Q :=
  Runs.stk d (fun p e s m args below meth c T locs L hx hd hP X t r => XS.lshl (g := mkF m pc L (.int y :: .long x :: S)) X.here hx rfl hd rfl r) h
theorem Runs.lshr {x : Int64} {y : Int32} (d : DAt M pc .lshr 1 q) (h : Runs C M k n q P (.long (x >>> (y &&& 0x3f).toInt64) :: S) G Q) : Runs C M k n pc P (.int y :: .long x :: S) G Q :=
  Runs.stk d (fun p e s m args below meth c T locs L hx hd hP X t r => XS.lshr (g := mkF m pc L (.int y :: .long x :: S)) X.here hx rfl hd rfl r) h
theorem Runs.lushr {x : Int64} {y : Int32} (d : DAt M pc .lushr 1 q) (h : Runs C M k n q P (.long ((x.toUInt64 >>> (y &&& 0x3f).toInt64.toUInt64).toInt64) :: S) G Q) : Runs C M k n pc P (.int y :: .long x :: S) G Q :=
  Runs.stk d (fun p e s m args below meth c T locs L hx hd hP X t r => XS.lushr (g := mkF m pc L (.int y :: .long x :: S)) X.here hx rfl hd rfl r) h
theorem Runs.ineg {x : Int32} (d : DAt M pc .ineg 1 q) (h : Runs C M k n q P (.int (-x) :: S) G Q) : Runs C M k n pc P (.int x :: S) G Q :=
  Runs.stk d (fun p e s m args below meth c T locs L hx hd hP X t r => XS.ineg (g := mkF m pc L (.int x :: S)) X.here hx rfl hd rfl r) h
theorem Runs.lneg {x : Int64} (d : DAt M pc .lneg 1 q) (h : Runs C M k n q P (.long (-x) :: S) G Q) : Runs C M k n pc P (.long x :: S) G Q :=
  Runs.stk d (fun p e s m args below meth c T locs L hx hd hP X t r => XS.lneg (g := mkF m pc L (.long x :: S)) X.here hx rfl hd rfl r) h
theorem Runs.i2l {x : Int32} (d : DAt M pc .i2l 1 q) (h : Runs C M k n q P (.long x.toInt64 :: S) G Q) : Runs C M k n pc P (.int x :: S) G Q :=
  Runs.stk d (fun p e s m args below meth c T locs L hx hd hP X t r => XS.i2l (g := mkF m pc L (.int x :: S)) X.here hx rfl hd rfl r) h
theorem Runs.l2i {x : Int64} (d : DAt M pc .l2i 1 q) (h : Runs C M k n q P (.int x.toInt32 :: S) G Q) : Runs C M k n pc P (.long x :: S) G Q :=
  Runs.stk d (fun p e s m args below meth c T locs L hx hd hP X t r => XS.l2i (g := mkF m pc L (.long x :: S)) X.here hx rfl hd rfl r) h
theorem Runs.lcmp {x y : Int64} (d : DAt M pc .lcmp 1 q) (h : Runs C M k n q P (.int (lcmpW x y) :: S) G Q) : Runs C M k n pc P (.long y :: .long x :: S) G Q :=
  Runs.stk d (fun p e s m args below meth c T locs L hx hd hP X t r => XS.lcmp (g := mkF m pc L (.long y :: .long x :: S)) X.here hx rfl hd rfl r) h
theorem Runs.idiv {x y : Int32} (d : DAt M pc .idiv 1 q) (hy : y ≠ 0) (h : Runs C M k n q P (.int (x / y) :: S) G Q) : Runs C M k n pc P (.int y :: .int x :: S) G Q :=
  Runs.stk d (fun p e s m args below meth c T locs L hx hd hP X t r => XS.idiv (g := mkF m pc L (.int y :: .int x :: S)) X.here hx rfl hd rfl hy r) h
theorem Runs.irem {x y : Int32} (d : DAt M pc .irem 1 q) (hy : y ≠ 0) (h : Runs C M k n q P (.int (x % y) :: S) G Q) : Runs C M k n pc P (.int y :: .int x :: S) G Q :=
  Runs.stk d (fun p e s m args below meth c T locs L hx hd hP X t r => iremM (g := mkF m pc L (.int y :: .int x :: S)) X hx rfl hd rfl hy r) h
theorem Runs.dup {x : Value} (d : DAt M pc .dup 1 q) (hc : x.category = 1) (h : Runs C M k n q P (x :: x :: S) G Q) : Runs C M k n pc P (x :: S) G Q :=
  Runs.stk d (fun p e s m args below meth c T locs L hx hd hP X t r => XS.dup (g := mkF m pc L (x :: S)) X.here hx rfl hd rfl hc r) h
theorem Runs.dup2 {x y : Value} (d : DAt M pc .dup2 1 q) (hc : x.category = 1) (hc' : y.category = 1) (h : Runs C M k n q P (x :: y :: x :: y :: S) G Q) : Runs C M k n pc P (x :: y :: S) G Q :=
  Runs.stk d (fun p e s m args below meth c T locs L hx hd hP X t r => Jvm.Free.XT.dup2 (g := mkF m pc L (x :: y :: S)) X.here hx rfl hd rfl hc hc' r) h
theorem Runs.pop {x : Value} (d : DAt M pc .pop 1 q) (hc : x.category = 1) (h : Runs C M k n q P S G Q) : Runs C M k n pc P (x :: S) G Q :=
  Runs.stk d (fun p e s m args below meth c T locs L hx hd hP X t r => XS.pop (g := mkF m pc L (x :: S)) X.here hx rfl hd rfl hc r) h
theorem Runs.goto {o : Int} {pc' : Nat} (d : DAt M pc (.goto o) 3 q) (ho : 0 ≤ (pc : Int) + o ∧ ((pc : Int) + o).toNat = pc') (h : Runs C M k n pc' P S G Q) : Runs C M k n pc P S G Q :=
  Runs.pure d (fun p e s m args below meth c T locs L hw hx hown hZ hd hP hsz _ X => ⟨L, hP, hsz, fun t r => XS.goto (g := mkF m pc L S) X.here hx rfl (pc0 := pc) rfl hd ho.1 ho.2 r⟩) h
theorem Runs.ifY {cd : ClassFile.Cond} {x : Int32} {o : Int} {pc' : Nat} (d : DAt M pc (.ifCond cd o) 3 q) (hc : if_icmp.holds cd x 0 = true) (ho : 0 ≤ (pc : Int) + o ∧ ((pc : Int) + o).toNat = pc') (h : Runs C M k n pc' P S G Q) : Runs C M k n pc P (.int x :: S) G Q :=
  Runs.pure d (fun p e s m args below meth c T locs L hw hx hown hZ hd hP hsz _ X => ⟨L, hP, hsz, fun t r => XS.ifYes (g := mkF m pc L (.int x :: S)) X.here hx rfl (pc0 := pc) rfl hd rfl ((if0 _ _).trans hc) ho.1 ho.2 r⟩) h
theorem Runs.ifN {cd : ClassFile.Cond} {x : Int32} {o : Int} (d : DAt M pc (.ifCond cd o) 3 q) (hc : if_icmp.holds cd x 0 = false) (h : Runs C M k n q P S G Q) : Runs C M k n pc P (.int x :: S) G Q :=
  Runs.stk d (fun p e s m args below meth c T locs L hx hd hP X t r => XS.ifNo (g := mkF m pc L (.int x :: S)) X.here hx rfl hd rfl ((if0 _ _).trans hc) r) h
theorem Runs.icY {cd : ClassFile.Cond} {x y : Int32} {o : Int} {pc' : Nat} (d : DAt M pc (.if_icmp cd o) 3 q) (hc : if_icmp.holds cd x y = true) (ho : 0 ≤ (pc : Int) + o ∧ ((pc : Int) + o).toNat = pc') (h : Runs C M k n pc' P S G Q) : Runs C M k n pc P (.int y :: .int x :: S) G Q :=
  Runs.pure d (fun p e s m args below meth c T locs L hw hx hown hZ hd hP hsz _ X => ⟨L, hP, hsz, fun t r => XS.icmpYes (g := mkF m pc L (.int y :: .int x :: S)) X.here hx rfl (pc0 := pc) rfl hd rfl hc ho.1 ho.2 r⟩) h
theorem Runs.icN {cd : ClassFile.Cond} {x y : Int32} {o : Int} (d : DAt M pc (.if_icmp cd o) 3 q) (hc : if_icmp.holds cd x y = false) (h : Runs C M k n q P S G Q) : Runs C M k n pc P (.int y :: .int x :: S) G Q :=
  Runs.stk d (fun p e s m args below meth c T locs L hx hd hP X t r => XS.icmpNo (g := mkF m pc L (.int y :: .int x :: S)) X.here hx rfl hd rfl hc r) h
theorem Runs.tswI {dflt low high : Int} {offs : Array Int} {len : Nat} {o : Int} {pc' : Nat} {i : Int32} (d : DAt M pc (.tableswitch dflt low high offs) len q) (hin : ¬ (i.toInt < low ∨ i.toInt > high)) (hoff : offs[(i.toInt - low).toNat]? = some o) (ho : 0 ≤ (pc : Int) + o ∧ ((pc : Int) + o).toNat = pc') (h : Runs C M k n pc' P S G Q) : Runs C M k n pc P (.int i :: S) G Q :=
  Runs.pure d (fun p e s m args below meth c T locs L hw hx hown hZ hd hP hsz _ X => ⟨L, hP, hsz, fun t r => XS.tswIn (g := mkF m pc L (.int i :: S)) X.here hx rfl (pc0 := pc) rfl hd rfl hin hoff ho.1 ho.2 r⟩) h
theorem Runs.tswO {dflt low high : Int} {offs : Array Int} {len : Nat} {pc' : Nat} {i : Int32} (d : DAt M pc (.tableswitch dflt low high offs) len q) (hout : i.toInt < low ∨ i.toInt > high) (ho : 0 ≤ (pc : Int) + dflt ∧ ((pc : Int) + dflt).toNat = pc') (h : Runs C M k n pc' P S G Q) : Runs C M k n pc P (.int i :: S) G Q :=
  Runs.pure d (fun p e s m args below meth c T locs L hw hx hown hZ hd hP hsz _ X => ⟨L, hP, hsz, fun t r => XS.tswOut (g := mkF m pc L (.int i :: S)) X.here hx rfl (pc0 := pc) rfl hd rfl hout ho.1 ho.2 r⟩) h
theorem Runs.istoreN {j : Fin 4} {x : Int32} (d : DAt M pc (.istore_n j) 1 q) (hi : j.val < M.2.2.1) (hP' : ps1 P j.val (.int x) = P') (h : Runs C M k n q P' S G Q) : Runs C M k n pc P (.int x :: S) G Q := by
  have hq := d.2
  subst hq hP'
  refine Runs.pure d (fun p e s m args below meth c T locs L hw hx hown hZ hd hP hsz _ X => ?_) h
  obtain ⟨L', e1, e2, e3⟩ := hP.store1 (i := j.val) (v := .int x) (by omega) rfl
  exact ⟨L', e3, e2.trans hsz, fun t r => XS.istoreN (g := mkF m pc L (.int x :: S)) X.here hx rfl hd rfl e1 r⟩
theorem Runs.istore {j : Nat} {x : Int32} (d : DAt M pc (.istore j) 2 q) (hi : j < M.2.2.1) (hP' : ps1 P j (.int x) = P') (h : Runs C M k n q P' S G Q) : Runs C M k n pc P (.int x :: S) G Q := by
  have hq := d.2
  subst hq hP'
  refine Runs.pure d (fun p e s m args below meth c T locs L hw hx hown hZ hd hP hsz _ X => ?_) h
  obtain ⟨L', e1, e2, e3⟩ := hP.store1 (i := j) (v := .int x) (by omega) rfl
  exact ⟨L', e3, e2.trans hsz, fun t r => XS.istore (g := mkF m pc L (.int x :: S)) X.here hx rfl hd rfl e1 r⟩
theorem Runs.astoreN {j : Fin 4} {x : Nat} (d : DAt M pc (.astore_n j) 1 q) (hi : j.val < M.2.2.1) (hP' : ps1 P j.val (.ref x) = P') (h : Runs C M k n q P' S G Q) : Runs C M k n pc P (.ref x :: S) G Q := by
  have hq := d.2
  subst hq hP'
  refine Runs.pure d (fun p e s m args below meth c T locs L hw hx hown hZ hd hP hsz _ X => ?_) h
  obtain ⟨L', e1, e2, e3⟩ := hP.store1 (i := j.val) (v := .ref x) (by omega) rfl
  exact ⟨L', e3, e2.trans hsz, fun t r => XS.astoreN (g := mkF m pc L (.ref x :: S)) X.here hx rfl hd rfl rfl e1 r⟩
theorem Runs.astore {j : Nat} {x : Nat} (d : DAt M pc (.astore j) 2 q) (hi : j < M.2.2.1) (hP' : ps1 P j (.ref x) = P') (h : Runs C M k n q P' S G Q) : Runs C M k n pc P (.ref x :: S) G Q := by
  have hq := d.2
  subst hq hP'
  refine Runs.pure d (fun p e s m args below meth c T locs L hw hx hown hZ hd hP hsz _ X => ?_) h
  obtain ⟨L', e1, e2, e3⟩ := hP.store1 (i := j) (v := .ref x) (by omega) rfl
  exact ⟨L', e3, e2.trans hsz, fun t r => XS.astore (g := mkF m pc L (.ref x :: S)) X.here hx rfl hd rfl rfl e1 r⟩
theorem Runs.lstoreN {j : Fin 4} {x : Int64} (d : DAt M pc (.lstore_n j) 1 q) (hi : j.val + 1 < M.2.2.1) (hP' : ps2 P j.val (.long x) = P') (h : Runs C M k n q P' S G Q) : Runs C M k n pc P (.long x :: S) G Q := by
  have hq := d.2
  subst hq hP'
  refine Runs.pure d (fun p e s m args below meth c T locs L hw hx hown hZ hd hP hsz _ X => ?_) h
  obtain ⟨L', e1, e2, e3⟩ := hP.store2 (i := j.val) (v := .long x) (by omega) rfl
  exact ⟨L', e3, e2.trans hsz, fun t r => XS.lstoreN (g := mkF m pc L (.long x :: S)) X.here hx rfl hd rfl e1 r⟩
theorem Runs.lstore {j : Nat} {x : Int64} (d : DAt M pc (.lstore j) 2 q) (hi : j + 1 < M.2.2.1) (hP' : ps2 P j (.long x) = P') (h : Runs C M k n q P' S G Q) : Runs C M k n pc P (.long x :: S) G Q := by
  have hq := d.2
  subst hq hP'
  refine Runs.pure d (fun p e s m args below meth c T locs L hw hx hown hZ hd hP hsz _ X => ?_) h
  obtain ⟨L', e1, e2, e3⟩ := hP.store2 (i := j) (v := .long x) (by omega) rfl
  exact ⟨L', e3, e2.trans hsz, fun t r => XS.lstore (g := mkF m pc L (.long x :: S)) X.here hx rfl hd rfl e1 r⟩
theorem Runs.iinc {j : Nat} {cst : Int} {x v : Int32} (d : DAt M pc (.iinc j cst) 3 q) (hv : Int32.ofInt cst = v) (hl : pget P j = vi x) (hi : j < M.2.2.1) (hP' : ps1 P j (.int (x + v)) = P') (h : Runs C M k n q P' S G Q) : Runs C M k n pc P S G Q := by
  have hq := d.2
  subst hq hP' hv
  refine Runs.pure d (fun p e s m args below meth c T locs L hw hx hown hZ hd hP hsz _ X => ?_) h
  obtain ⟨L', e1, e2, e3⟩ := hP.store1 (i := j) (v := .int (x + Int32.ofInt cst)) (by omega) rfl
  exact ⟨L', e3, e2.trans hsz, fun t r => XS.iinc (g := mkF m pc L S) X.here hx rfl hd (hP.1 _ _ hl) e1 r⟩
/-- less is known of the locals -/
def psub : Pat → Pat → Prop
  | [], _ => True
  | none :: l, _ :: l' => psub l l'
  | some s :: l, y :: l' => y = some s ∧ psub l l'
  | none :: l, [] => psub l []
  | some _ :: _, [] => False
theorem psub_get : ∀ (P P' : Pat), psub P P' → ∀ i s, pget P i = some s → pget P' i = some s
  | [], _, _, i, s, h => by simp [pget] at h
  | none :: l, _ :: l', H, 0, s, h => by simp [pget] at h
  | none :: l, _ :: l', H, i + 1, s, h => psub_get l l' H i s h
  | some x :: l, y :: l', H, 0, s, h => by rw [show y = some x from H.1]; exact h
  | some x :: l, y :: l', H, i + 1, s, h => psub_get l l' H.2 i s h
  | none :: l, [], H, 0, s, h => by simp [pget] at h
  | none :: l, [], H, i + 1, s, h => by have := psub_get l [] H i s h; simp [pget] at this
  | some _ :: _, [], H, _, _, _ => H.elim
theorem Runs.weak (hP : psub P' P) (h : Runs C M k n pc P' S G Q) : Runs C M k n pc P S G Q := by
  intro hw p e s m args below meth c T locs L hx hby hml hret hnm hown hZ hf
  exact h hw p e s m args below meth c T locs L hx hby hml hret hnm hown hZ ⟨fun i s hi => hf.1 i s (psub_get _ _ hP i s hi), hf.2⟩
theorem Runs.swap {top : Nat} {x y : Nat × Nat × Rec} {H : List (Nat × Nat × Rec)} (h : Runs C M k n pc P S (top, y :: x :: H) Q) : Runs C M k n pc P S (top, x :: y :: H) Q := by
  intro hw p e s m args below meth c T locs L hx hby hml hret hnm hown hZ hf hsz X hR hF
  exact h hw p e s m args below meth c T locs L hx hby hml hret hnm hown hZ hf hsz X hR.swap hF
end Rules
/- the steps that touch the heap -/
section Made
variable {p : Program} {l : Launch} {e : Env} {R : Room} {s : State} {m : MethodId} {args : Array Value} {below : List Frame} {meth : Method} {c : Code} {T : State} {locs : List Loc} {cells slots : Nat} {Z : State} {a0 : Array Value}
theorem ext_push (h : Heap) (x : Cell) : Ext h (h.push x) := ⟨by simp, fun a c q => by rw [Array.getElem?_push_lt (Array.getElem?_eq_some_iff.mp q).1]; exact (Array.getElem?_eq_getElem _).symm.trans q⟩
/-- 'new', with the heap's size behind it -/
theorem new1 (X : Stand p l e R s m args below meth c T locs cells slots) (hx : p.tables.exec = Jvm.exec) (hZ : Z.Warmed39 s.vm) {own C : String} {index n : Nat} (hown : s.vm.findClass own = some m.cls) (w : (Jvm.Cond.classLink own index C).before a0 Z = true) (wi : (Jvm.Cond.instantiable C n).before a0 Z = true) (wz : (Jvm.Cond.initialized C).before a0 Z = true)
    {g : JFrame} (hg : g.method = m) (hd : decode c.code g.pc = .ok (.new index, 3)) (hc : cells + 1 ≤ R.cells) (hl : slots + n ≤ R.slots) :
    ∃ T', Stand p l e R s m args below meth c T' locs (cells + 1) (slots + n) ∧ T'.heap.size = T.heap.size + 1 ∧ Ext T.heap T'.heap ∧ Exa Z T'.heap T.heap.size C ∧ (∀ {O nm d : String} {ty : FieldType}, Laid Z a0 C O nm d → parseFieldDescriptor d = some ty → Fld Z T'.heap T.heap.size O nm d (defaultValue ty)) ∧
      ∀ target, Steps p.tables e below (T'.setTop { g with pc := g.pc + 3, stack := .ref T.heap.size :: g.stack }) target → Steps p.tables e below (T.setTop g) target := by
  obtain ⟨vm', cC, kC, h1, h2, h3, h4, X', st⟩ := X.newCold hx hown (mv hZ w) (mv hZ wi) (mv hZ wz) hg hd hc hl
  rw [hZ.alike.findClass] at h1
  obtain ⟨kZ, z1, -⟩ := Vm.findClass_spec h1
  obtain ⟨k', z2, z3⟩ := hZ.alike.2.2 _ _ z1
  have ek : kC.instanceTypes = kZ.instanceTypes := by rw [Option.some.inj (h2.symm.trans z2), z3]
  obtain ⟨cell, hcell⟩ : ∃ cell : Cell, cell = { cls := cC, slots := kC.instanceTypes.map defaultValue, vm := .none } := ⟨_, rfl⟩
  rw [← hcell] at X' st
  have hp : ((T.setVm vm').pushCell cell).heap = T.heap.push cell := rfl
  have at' : (T.heap.push cell)[T.heap.size]? = some cell := by simp
  refine ⟨_, X', by rw [hp]; simp, by rw [hp]; exact ext_push _ _, ?_, fun {O nm d ty} L ht => ?_, st⟩
  · rw [hp]; exact ⟨cell, kZ, at', by rw [hcell]; exact h1, by rw [hcell]; exact z1, by rw [hcell]; rfl, fun _ => by rw [hcell]; simp [ek]⟩
  · rw [hp]
    obtain ⟨c1, k1, cf, kf, i, f, a1, a2, a3, a4, a5, a6, -⟩ := L.spec
    cases h1.symm.trans a1
    cases z1.symm.trans a2
    refine ⟨cell, cf, kf, i, f, at', a3, a4, by rw [hcell]; simp, by rw [hcell]; rfl, by rw [hcell]; exact a5, ?_⟩
    rw [hcell]; simp [ek, a6, (State.fieldFound?_type a3 ht).2]
theorem newArr1 (X : Stand p l e R s m args below meth c T locs cells slots) (hx : p.tables.exec = Jvm.exec) (hZ : Z.Warmed39 s.vm) {aty : ArrayType} (w : (Jvm.Cond.arrayClass (newarray.typeOf aty)).before a0 Z = true) {g : JFrame} (hg : g.method = m) (hd : decode c.code g.pc = .ok (.newarray aty, 2)) {n : Int32} {rest : List Value} (hs : g.stack = .int n :: rest)
    (hn : ¬ n < 0) (hb : n.toNatClampNeg * 8 ≤ 536870912) (hc : cells + 1 ≤ R.cells) (hl : slots + n.toNatClampNeg ≤ R.slots) :
    ∃ T' cA, Stand p l e R s m args below meth c T' locs (cells + 1) (slots + n.toNatClampNeg) ∧ T'.heap.size = T.heap.size + 1 ∧ Ext T.heap T'.heap ∧ Arr Z T'.heap T.heap.size (newA cA (newarray.typeOf aty) n) (newarray.typeOf aty) ∧
      ∀ target, Steps p.tables e below (T'.setTop { g with pc := g.pc + 2, stack := .ref T.heap.size :: rest }) target → Steps p.tables e below (T.setTop g) target := by
  have hcb : componentBytes (newarray.typeOf aty) ≤ 8 := by cases aty <;> decide
  obtain ⟨cA, kA, comp, h1, h2, h3, X', st⟩ := X.newarrayPrim hx (mvA hZ w) hg hd hs hn (Nat.le_trans (Nat.mul_le_mul_left _ hcb) hb) hc hl
  rw [hZ.alike.findClass] at h1
  obtain ⟨kZ, z1, -⟩ := Vm.findClass_spec h1
  obtain ⟨k', z2, z3⟩ := hZ.alike.2.2 _ _ z1
  have ek : kA.kind = kZ.kind := by rw [Option.some.inj (h2.symm.trans z2), z3]
  have hp : (T.pushCell (newA cA (newarray.typeOf aty) n)).heap = T.heap.push (newA cA (newarray.typeOf aty) n) := rfl
  refine ⟨T.pushCell (newA cA (newarray.typeOf aty) n), cA, X', by rw [hp]; simp, by rw [hp]; exact ext_push _ _, ?_, st⟩
  rw [hp]
  exact ⟨by simp, ⟨by simp [newA], kZ, z1, comp, by rw [← ek]; exact h3⟩, by simp [newA]⟩
end Made
section Heap
variable {C : Ctx} {M : Bdy} {k n pc q : Nat} {P P' : Pat} {S S' : List Value} {G : AH} {Q : Option Value → AH → Prop} {top : Nat} {a : Nat} {qq j idx : Nat} {ob : Rec} {H : List (Nat × Nat × Rec)} {nm ds : String}
theorem Runs.getI (d : DAt M pc (.getfield idx) 3 q) (w : Jvm.Cond.fieldLink M.1.cls idx K.1 nm ds ∈ tables_1) (hk : K.2.1[j]? = some (nm, ds)) (h : Runs C M k n q P (.int (gI ob j) :: S) (top, (a, qq, ob) :: H) Q) : Runs C M k n pc P (.ref a :: S) (top, (a, qq, ob) :: H) Q := by
  intro hw p e s m args below meth c T locs L hx hby hml hret hnm hown hZ hf hsz X hR hF
  have hq := d.2
  subst hq
  obtain ⟨T1, X1, e1, st1⟩ := getF X hx hZ hown (host := "") (Or.inl (hw _ w)) Via.refl rfl (hR.objs.2.2.2.1 j _ hk) (g := mkF m pc L (.ref a :: S)) rfl rfl (hb hby d.1)
  obtain ⟨T', locs', k', n', r, G', g1, g2, g3, g4, g5, g6, g7, g8⟩ := h hw p e s m args below meth c T1 locs L hx hby hml hret hnm hown hZ hf hsz X1 (by rw [e1]; exact hR) hF
  exact ⟨T', locs', k', n', r, G', g1, g2, g3, g4, g5, g6, g7, fun fs hr => st1 _ (g8 fs hr)⟩
theorem Runs.getA {ty : FieldType} {len : Int32} (d : DAt M pc (.getfield idx) 3 q) (hk : K.2.2[j]? = some (nm, ty, len)) (w : Jvm.Cond.fieldLink M.1.cls idx K.1 nm (aD ty) ∈ tables_1) (hq : j < qq) (h : Runs C M k n q P (.ref (a + 1 + j) :: S) (top, (a, qq, ob) :: H) Q) : Runs C M k n pc P (.ref a :: S) (top, (a, qq, ob) :: H) Q := by
  intro hw p e s m args below meth c T locs L hx hby hml hret hnm hown hZ hf hsz X hR hF
  have hqq := d.2
  subst hqq
  obtain ⟨T1, X1, e1, st1⟩ := getF X hx hZ hown (host := "") (Or.inl (hw _ w)) Via.refl rfl (hR.objs.2.2.2.2.1 j _ hk hq).1 (g := mkF m pc L (.ref a :: S)) rfl rfl (hb hby d.1)
  obtain ⟨T', locs', k', n', r, G', g1, g2, g3, g4, g5, g6, g7, g8⟩ := h hw p e s m args below meth c T1 locs L hx hby hml hret hnm hown hZ hf hsz X1 (by rw [e1]; exact hR) hF
  exact ⟨T', locs', k', n', r, G', g1, g2, g3, g4, g5, g6, g7, fun fs hr => st1 _ (g8 fs hr)⟩
theorem lw_of {Z : State} {a0 : Array Value} {meth : Method} (hw : ∀ d ∈ tables_1, d.before a0 Z = true) {C O n d own : String} (h : Jvm.Cond.lays C O n d ∈ tables_1 ∨ Jvm.Cond.laysFinal C O n d ∈ tables_1) (hc : Jvm.Cond.lays C O n d ∈ tables_1 ∨ (own = O ∧ meth.name = "<init>")) : (Jvm.Cond.lays C O n d).before a0 Z = true ∨ ((Jvm.Cond.laysFinal C O n d).before a0 Z = true ∧ own = O ∧ meth.name = "<init>") := by
  rcases hc with hc | hc
  · exact Or.inl (hw _ hc)
  · exact h.imp (hw _) (fun u => ⟨hw _ u, hc⟩)
/-- a field that may be written here: not final, or in a constructor of its class -/
def Mine (M : Bdy) (nm ds : String) : Prop := Jvm.Cond.lays K.1 K.1 nm ds ∈ tables_1 ∨ (M.1.cls = K.1 ∧ M.1.name = "<init>")
theorem Runs.putI {x : Int32} (d : DAt M pc (.putfield idx) 3 q) (w : Jvm.Cond.fieldLink M.1.cls idx K.1 nm "I" ∈ tables_1) (hk : K.2.1[j]? = some (nm, "I")) (hm : Mine M nm "I") (h : Runs C M k n q P S (top, (a, qq, sI ob j x) :: H) Q) : Runs C M k n pc P (.int x :: .ref a :: S) (top, (a, qq, ob) :: H) Q := by
  intro hw p e s m args below meth c T locs L hx hby hml hret hnm hown hZ hf hsz X hR hF
  have hqq := d.2
  subst hqq
  obtain ⟨T1, h1, X1, e1, W1, st1⟩ := putF X hx hZ hown (host := "") (Or.inl (hw _ w)) Via.refl rfl (hR.objs.2.2.2.1 j _ hk) hR.objs.2.2.1 (lw_of hw ((All.mem kS (List.mem_of_getElem? hk)).1) (hm.imp id (fun u => ⟨u.1, hnm.trans u.2⟩))) (hw _ kI) (ty := .int) (by decide) rfl rfl (g := mkF m pc L (.int x :: .ref a :: S)) rfl rfl (hb hby d.1)
  obtain ⟨T', locs', k', n', r, G', g1, g2, g3, g4, g5, g6, g7, g8⟩ := h hw p e s m args below meth c T1 _ L hx hby hml hret hnm hown hZ hf hsz X1 (by rw [e1]; exact hR.putI hw hk W1) (Fr.snoc X1 hF hR.objs.1)
  exact ⟨T', locs', k', n', r, G', g1, g2, g3, g4, g5, g6, g7, fun fs hr => st1 _ (g8 fs hr)⟩
theorem Runs.putZ {x y : Int32} (d : DAt M pc (.putfield idx) 3 q) (w : Jvm.Cond.fieldLink M.1.cls idx K.1 nm "Z" ∈ tables_1) (hk : K.2.1[j]? = some (nm, "Z")) (hm : Mine M nm "Z") (hy : nar .boolean x = y) (h : Runs C M k n q P S (top, (a, qq, sI ob j y) :: H) Q) : Runs C M k n pc P (.int x :: .ref a :: S) (top, (a, qq, ob) :: H) Q := by
  subst hy
  intro hw p e s m args below meth c T locs L hx hby hml hret hnm hown hZ hf hsz X hR hF
  have hqq := d.2
  subst hqq
  obtain ⟨T1, h1, X1, e1, W1, st1⟩ := putFN X hx hZ hown (hw _ w) Via.refl rfl (hR.objs.2.2.2.1 j _ hk) hR.objs.2.2.1 (lw_of hw ((All.mem kS (List.mem_of_getElem? hk)).1) (hm.imp id (fun u => ⟨u.1, hnm.trans u.2⟩))) (hw _ kI) (ty := .boolean) (v' := .int (nar .boolean x)) (by decide) rfl (fits_nar_bool _) (g := mkF m pc L (.int x :: .ref a :: S)) rfl rfl (hb hby d.1)
  obtain ⟨T', locs', k', n', r, G', g1, g2, g3, g4, g5, g6, g7, g8⟩ := h hw p e s m args below meth c T1 _ L hx hby hml hret hnm hown hZ hf hsz X1 (by rw [e1]; exact hR.putI hw hk W1) (Fr.snoc X1 hF hR.objs.1)
  exact ⟨T', locs', k', n', r, G', g1, g2, g3, g4, g5, g6, g7, fun fs hr => st1 _ (g8 fs hr)⟩
theorem Runs.ialoadA {i len : Int32} (d : DAt M pc .iaload 1 q) (hk : K.2.2[j]? = some (nm, .int, len)) (hq : j < qq) (hi : ¬ i < 0 ∧ i < len) (h : Runs C M k n q P (.int (gA ob j i) :: S) (top, (a, qq, ob) :: H) Q) : Runs C M k n pc P (.int i :: .ref (a + 1 + j) :: S) (top, (a, qq, ob) :: H) Q := by
  have hqq := d.2
  subst hqq
  refine Runs.pure d (fun p e s m args below meth c T locs L hw hx hown hZ hd hP hsz hR X => ⟨L, hP, hsz, fun t r => ?_⟩) h
  obtain ⟨cl, A, Sz, V⟩ := (hR.objs.2.2.2.2.1 j _ hk hq).2
  exact X.iaload hx (j := i) (v := .int (gA ob j i)) A.1 (State.isArrayOf_alike hZ.alike A.2.1) A.2.2 (inb_of Sz hi) (V i hi.1 hi.2) (g := mkF m pc L (.int i :: .ref (a + 1 + j) :: S)) rfl rfl hd _ r
theorem Runs.baloadA {i len : Int32} (d : DAt M pc .baload 1 q) (hk : K.2.2[j]? = some (nm, .boolean, len)) (hq : j < qq) (hi : ¬ i < 0 ∧ i < len) (h : Runs C M k n q P (.int (gA ob j i) :: S) (top, (a, qq, ob) :: H) Q) : Runs C M k n pc P (.int i :: .ref (a + 1 + j) :: S) (top, (a, qq, ob) :: H) Q := by
  have hqq := d.2
  subst hqq
  refine Runs.pure d (fun p e s m args below meth c T locs L hw hx hown hZ hd hP hsz hR X => ⟨L, hP, hsz, fun t r => ?_⟩) h
  obtain ⟨cl, A, Sz, V⟩ := (hR.objs.2.2.2.2.1 j _ hk hq).2
  exact X.baloadBooleans hx (j := i) (v := .int (gA ob j i)) A.1 (State.isArrayOf_alike hZ.alike A.2.1) A.2.2 (inb_of Sz hi) (V i hi.1 hi.2) (g := mkF m pc L (.int i :: .ref (a + 1 + j) :: S)) rfl rfl hd _ r
theorem Runs.laloadA {i len : Int32} (d : DAt M pc .laload 1 q) (hk : K.2.2[j]? = some (nm, .long, len)) (hq : j < qq) (hi : ¬ i < 0 ∧ i < len) (h : Runs C M k n q P (.long (gJ ob j i) :: S) (top, (a, qq, ob) :: H) Q) : Runs C M k n pc P (.int i :: .ref (a + 1 + j) :: S) (top, (a, qq, ob) :: H) Q := by
  have hqq := d.2
  subst hqq
  refine Runs.pure d (fun p e s m args below meth c T locs L hw hx hown hZ hd hP hsz hR X => ⟨L, hP, hsz, fun t r => ?_⟩) h
  obtain ⟨cl, A, Sz, V⟩ := (hR.objs.2.2.2.2.1 j _ hk hq).2
  exact X.laload hx (j := i) (v := .long (gJ ob j i)) A.1 (State.isArrayOf_alike hZ.alike A.2.1) A.2.2 (inb_of Sz hi) (V i hi.1 hi.2) (g := mkF m pc L (.int i :: .ref (a + 1 + j) :: S)) rfl rfl hd _ r
theorem Runs.iastoreA {i x len : Int32} (d : DAt M pc .iastore 1 q) (hk : K.2.2[j]? = some (nm, .int, len)) (hq : j < qq) (hi : ¬ i < 0 ∧ i < len) (h : Runs C M k n q P S (top, (a, qq, sA ob j i x) :: H) Q) : Runs C M k n pc P (.int x :: .int i :: .ref (a + 1 + j) :: S) (top, (a, qq, ob) :: H) Q := by
  intro hw p e s m args below meth c T locs L hx hby hml hret hnm hown hZ hf hsz X hR hF
  have hqq := d.2
  subst hqq
  obtain ⟨cl, A, Sz, V⟩ := (hR.objs.2.2.2.2.1 j _ hk hq).2
  obtain ⟨T1, h1, X1, e1, W1, st1⟩ := stI X hx hZ rfl A (j := i) (x := x) (inb_of Sz hi) (g := mkF m pc L (.int x :: .int i :: .ref (a + 1 + j) :: S)) rfl rfl (hb hby d.1)
  obtain ⟨T', locs', k', n', r, G', g1, g2, g3, g4, g5, g6, g7, g8⟩ := h hw p e s m args below meth c T1 _ L hx hby hml hret hnm hown hZ hf hsz X1 (by rw [e1]; exact hR.putA hk hq (by simp) hi W1) (Fr.snoc X1 hF (by have := hR.objs.1; omega))
  exact ⟨T', locs', k', n', r, G', g1, g2, g3, g4, g5, g6, g7, fun fs hr => st1 _ (g8 fs hr)⟩
theorem Runs.bastoreA {i x len : Int32} (d : DAt M pc .bastore 1 q) (hk : K.2.2[j]? = some (nm, .boolean, len)) (hq : j < qq) (hi : ¬ i < 0 ∧ i < len) {y : Int32} (hy : nar .boolean x = y) (h : Runs C M k n q P S (top, (a, qq, sA ob j i y) :: H) Q) : Runs C M k n pc P (.int x :: .int i :: .ref (a + 1 + j) :: S) (top, (a, qq, ob) :: H) Q := by
  subst hy
  intro hw p e s m args below meth c T locs L hx hby hml hret hnm hown hZ hf hsz X hR hF
  have hqq := d.2
  subst hqq
  obtain ⟨cl, A, Sz, V⟩ := (hR.objs.2.2.2.2.1 j _ hk hq).2
  obtain ⟨T1, h1, X1, e1, W1, st1⟩ := stZ X hx hZ rfl A (j := i) (x := x) (inb_of Sz hi) (g := mkF m pc L (.int x :: .int i :: .ref (a + 1 + j) :: S)) rfl rfl (hb hby d.1)
  obtain ⟨T', locs', k', n', r, G', g1, g2, g3, g4, g5, g6, g7, g8⟩ := h hw p e s m args below meth c T1 _ L hx hby hml hret hnm hown hZ hf hsz X1 (by rw [e1]; exact hR.putA hk hq (by simp) hi W1) (Fr.snoc X1 hF (by have := hR.objs.1; omega))
  exact ⟨T', locs', k', n', r, G', g1, g2, g3, g4, g5, g6, g7, fun fs hr => st1 _ (g8 fs hr)⟩
theorem Runs.lastoreA {i len : Int32} {x : Int64} (d : DAt M pc .lastore 1 q) (hk : K.2.2[j]? = some (nm, .long, len)) (hq : j < qq) (hi : ¬ i < 0 ∧ i < len) (h : Runs C M k n q P S (top, (a, qq, sJ ob j i x) :: H) Q) : Runs C M k n pc P (.long x :: .int i :: .ref (a + 1 + j) :: S) (top, (a, qq, ob) :: H) Q := by
  intro hw p e s m args below meth c T locs L hx hby hml hret hnm hown hZ hf hsz X hR hF
  have hqq := d.2
  subst hqq
  obtain ⟨cl, A, Sz, V⟩ := (hR.objs.2.2.2.2.1 j _ hk hq).2
  obtain ⟨T1, h1, X1, e1, W1, st1⟩ := stJ X hx hZ rfl A (j := i) (x := x) (inb_of Sz hi) (g := mkF m pc L (.long x :: .int i :: .ref (a + 1 + j) :: S)) rfl rfl (hb hby d.1)
  obtain ⟨T', locs', k', n', r, G', g1, g2, g3, g4, g5, g6, g7, g8⟩ := h hw p e s m args below meth c T1 _ L hx hby hml hret hnm hown hZ hf hsz X1 (by rw [e1]; exact hR.putJ hk hq rfl hi W1) (Fr.snoc X1 hF (by have := hR.objs.1; omega))
  exact ⟨T', locs', k', n', r, G', g1, g2, g3, g4, g5, g6, g7, fun fs hr => st1 _ (g8 fs hr)⟩
/-- the script: an array that stood before the law began -/
def ScrF (C : Ctx) (sa : Nat) (z : Int32) (f : Int32 → Int32) : Prop := ∃ cl : Cell, Scr C.2.1 C.2.1.heap sa cl z ∧ f = atv cl
theorem Runs.lenS {sa : Nat} {z : Int32} {f : Int32 → Int32} (hs : ScrF C sa z f) (d : DAt M pc .arraylength 1 q) (h : Runs C M k n q P (.int z :: S) G Q) : Runs C M k n pc P (.ref sa :: S) G Q := by
  have hqq := d.2
  subst hqq
  refine Runs.pure d (fun p e s m args below meth c T locs L hw hx hown hZ hd hP hsz hR X => ⟨L, hP, hsz, fun t r => ?_⟩) h
  obtain ⟨cl, F, -⟩ := hs
  obtain ⟨A, Sz, N, V⟩ := F.ext hR.2.1.2
  exact X.arraylength hx A.1 (State.isArrayOf_alike hZ.alike A.2.1) (g := mkF m pc L (.ref sa :: S)) rfl rfl hd _ (by rw [len_of Sz N]; exact r)
theorem Runs.ialoadS {sa : Nat} {z i : Int32} {f : Int32 → Int32} (hs : ScrF C sa z f) (d : DAt M pc .iaload 1 q) (hi : ¬ i < 0 ∧ i < z) (h : Runs C M k n q P (.int (f i) :: S) G Q) : Runs C M k n pc P (.int i :: .ref sa :: S) G Q := by
  have hqq := d.2
  subst hqq
  refine Runs.pure d (fun p e s m args below meth c T locs L hw hx hown hZ hd hP hsz hR X => ⟨L, hP, hsz, fun t r => ?_⟩) h
  obtain ⟨cl, F, rfl⟩ := hs
  obtain ⟨A, Sz, N, V⟩ := F.ext hR.2.1.2
  exact X.iaload hx (j := i) (v := .int (atv cl i)) A.1 (State.isArrayOf_alike hZ.alike A.2.1) A.2.2 (inb_of Sz hi) (V i (inb_of Sz hi)) (g := mkF m pc L (.int i :: .ref sa :: S)) rfl rfl hd _ r
/- leaving -/
theorem Runs.retI {v : Int32} (d : DAt M pc .ireturn 1 q) (hret : M.2.2.2.1 = some .int) (hk : k ≤ M.2.2.2.2.cells ∧ n ≤ M.2.2.2.2.slots) (hQ : Q (some (.int v)) G) : Runs C M k n pc P (.int v :: S) G Q := by
  intro hw p e s m args below meth c T locs L hx hby hml hr0 hnm hown hZ hf hsz X hR hF
  exact ⟨T, locs, k, n, _, G, X, hk.1, hk.2, hR, hF, hQ, (fun u => by rw [hret] at u; cases u), fun fs hr => Jvm.RoadKit.retI X hx (hr0.trans hret) (hb hby d.1) hr⟩
theorem Runs.retZ {v : Int32} (d : DAt M pc .ireturn 1 q) (hret : M.2.2.2.1 = some .boolean) (hk : k ≤ M.2.2.2.2.cells ∧ n ≤ M.2.2.2.2.slots) {y : Int32} (hy : nar .boolean v = y) (hQ : Q (some (.int y)) G) : Runs C M k n pc P (.int v :: S) G Q := by
  subst hy
  intro hw p e s m args below meth c T locs L hx hby hml hr0 hnm hown hZ hf hsz X hR hF
  exact ⟨T, locs, k, n, _, G, X, hk.1, hk.2, hR, hF, hQ, (fun u => by rw [hret] at u; cases u), fun fs hr => retN X hx (t := .boolean) (hr0.trans hret) (by simp) (hb hby d.1) hr⟩
theorem Runs.retJ {v : Int64} (d : DAt M pc .lreturn 1 q) (hret : M.2.2.2.1 = some .long) (hk : k ≤ M.2.2.2.2.cells ∧ n ≤ M.2.2.2.2.slots) (hQ : Q (some (.long v)) G) : Runs C M k n pc P (.long v :: []) G Q := by
  intro hw p e s m args below meth c T locs L hx hby hml hr0 hnm hown hZ hf hsz X hR hF
  exact ⟨T, locs, k, n, _, G, X, hk.1, hk.2, hR, hF, hQ, (fun u => by rw [hret] at u; cases u), fun fs hr => X.lreturnOut hx (hr0.trans hret) (hb hby d.1) hr⟩
theorem Runs.retV (d : DAt M pc .return_ 1 q) (hret : M.2.2.2.1 = none) (hk : k ≤ M.2.2.2.2.cells ∧ n ≤ M.2.2.2.2.slots) (hQ : Q none G) : Runs C M k n pc P [] G Q := by
  intro hw p e s m args below meth c T locs L hx hby hml hr0 hnm hown hZ hf hsz X hR hF
  exact ⟨T, locs, k, n, _, G, X, hk.1, hk.2, hR, hF, hQ, (fun _ => rfl), fun fs hr => X.returnOut hx (hr0.trans hret) (hb hby d.1) hr⟩
/- a new object, and the arrays that its constructor makes -/
theorem Runs.newK (d : DAt M pc (.new idx) 3 q) (w : Jvm.Cond.classLink M.1.cls idx K.1 ∈ tables_1) (hc : k + 1 ≤ M.2.2.2.2.cells ∧ n + kN ≤ M.2.2.2.2.slots) {k' n' : Nat} (hk' : k + 1 = k') (hn' : n + kN = n') {H : List (Nat × Nat × Rec)} (hd : ∀ x ∈ H, x.1 + x.2.1 < top) (h : Runs C M k' n' q P (.ref top :: S) (top + 1, (top, 0, zrec) :: H) Q) : Runs C M k n pc P S (top, H) Q := by
  subst hk' hn'
  intro hw p e s m args below meth c T locs L hx hby hml hr0 hnm hown hZ hf hsz X hR hF
  have hqq := d.2
  subst hqq
  obtain ⟨T2, X2, s2, E2, A2, D2, st2⟩ := new1 X hx hZ hown (hw _ w) (hw _ kI) (hw _ kZ) (g := mkF m pc L S) rfl (hb hby d.1) hc.1 hc.2
  have hs : T.heap.size = top := hR.1
  rw [hs] at A2 D2 st2 s2
  have hR2 : Rep C.2.1 C.2.2.1 T2.heap (top + 1, (top, 0, zrec) :: H) := by
    refine ⟨s2, hR.2.1.ext E2, fun x hx' => ?_, ?_⟩
    · rcases List.mem_cons.mp hx' with rfl | hx'
      · refine ⟨?_, by simp, A2, fun k nd hk => ?_, fun k t hk hq => by simp at hq, fun k t hk hq => ?_⟩
        · have := hR.2.1.2.1; rw [hR.2.1.1] at this; simp only; omega
        · rcases (All.mem kS (List.mem_of_getElem? hk)).2 with e | e
          · have := D2 (laidS hw hk) (ty := .int) (by rw [e]; decide); exact this
          · have := D2 (laidS hw hk) (ty := .boolean) (by rw [e]; decide); exact this
        · have := D2 (laidA hw hk) (pfA hk); exact this
      · obtain ⟨p1, p2, p3⟩ := hR.2.2.1 x hx'
        exact ⟨p1, by simp only at p2 ⊢; omega, p3.ext E2⟩
    · exact List.pairwise_cons.mpr ⟨fun y hy => Or.inr (hd y hy), hR.2.2.2⟩
  obtain ⟨T', locs', k', n', r, G', g1, g2, g3, g4, g5, g6, g7, g8⟩ := h hw p e s m args below meth c T2 _ L hx hby hml hr0 hnm hown hZ hf hsz X2 hR2 hF
  exact ⟨T', locs', k', n', r, G', g1, g2, g3, g4, g5, g6, g7, fun fs hr => st2 _ (g8 fs hr)⟩
/-- newarray and the putfield behind it: the next array of an object that is being made -/
theorem Runs.newArr {aty : ArrayType} {ty : FieldType} {len : Int32} {q1 : Nat} (d : DAt M pc (.newarray aty) 2 q1) (d' : DAt M q1 (.putfield idx) 3 q) (hk : K.2.2[j]? = some (nm, ty, len)) (w : Jvm.Cond.fieldLink M.1.cls idx K.1 nm (aD ty) ∈ tables_1) (ht : newarray.typeOf aty = ty) (wa : Jvm.Cond.arrayClass ty ∈ tables_1) (hm : Mine M nm (aD ty))
    (htop : top = a + 1 + j) (hlen : ¬ len < 0 ∧ len.toNatClampNeg * 8 ≤ 536870912) (hc : k + 1 ≤ M.2.2.2.2.cells ∧ n + len.toNatClampNeg ≤ M.2.2.2.2.slots) (hz : (∀ i, ob.2.1 j i = 0) ∧ (∀ i, ob.2.2 j i = 0)) {j' top' k' n' : Nat} (hj' : j + 1 = j') (ht' : top + 1 = top') (hk' : k + 1 = k') (hn' : n + len.toNatClampNeg = n')
    (h : Runs C M k' n' q P S (top', (a, j', ob) :: H) Q) : Runs C M k n pc P (.int len :: .ref a :: S) (top, (a, j, ob) :: H) Q := by
  subst hj' ht' hk' hn'
  intro hw p e s m args below meth c T locs L hx hby hml hr0 hnm hown hZ hf hsz X hR hF
  have hqq := d.2
  have hqq' := d'.2
  subst hqq hqq' ht
  obtain ⟨T1, cA, X1, s1, E1, A1, st1⟩ := newArr1 X hx hZ (hw _ wa) (g := mkF m pc L (.int len :: .ref a :: S)) rfl (hb hby d.1) rfl hlen.1 hlen.2 hc.1 hc.2
  have hs : T.heap.size = top := hR.1
  rw [hs] at A1 st1 s1
  have O1 := hR.objs.2.2.ext E1
  obtain ⟨T2, h2, X2, e2, W2, st2⟩ := putF X1 hx hZ hown (host := "") (Or.inl (hw _ w)) Via.refl rfl (O1.2.2.2 j _ hk (Nat.le_refl _)) O1.1 (lw_of hw ((All.mem kA (List.mem_of_getElem? hk)).1) (hm.imp id (fun u => ⟨u.1, hnm.trans u.2⟩))) (hw _ kI) (ty := .array (newarray.typeOf aty)) (pfA hk) rfl rfl (g := mkF m (pc + 2) L (.ref top :: .ref a :: S)) rfl rfl (hb hby d'.1)
  have hts : (newarray.typeOf aty = .int ∨ newarray.typeOf aty = .boolean ∨ newarray.typeOf aty = .long) := (All.mem kA (List.mem_of_getElem? hk)).2.1
  have hA := arr_new A1 hts hz
  have hR2 : Rep C.2.1 C.2.2.1 T2.heap (top + 1, (a, j + 1, ob) :: H) := by rw [e2]; exact hR.addA hw E1 s1 htop hk hA W2
  obtain ⟨T', locs', k', n', r, G', g1, g2, g3, g4, g5, g6, g7, g8⟩ := h hw p e s m args below meth c T2 _ L hx hby hml hr0 hnm hown hZ hf hsz X2 hR2 (Fr.snoc X2 hF hR.objs.1)
  exact ⟨T', locs', k', n', r, G', g1, g2, g3, g4, g5, g6, g7, fun fs hr => st1 _ (st2 _ (g8 fs hr))⟩
theorem Runs.initO {W : Nat} (d : DAt M pc (.invokespecial idx) 3 q) (w1 : Jvm.Cond.methodLink M.1.cls idx Lib.objectInit ∈ tables_1) (w2 : Jvm.Cond.instanceMethod Lib.objectInit ∈ tables_1) (w3 : Jvm.Cond.code Lib.objectInit ⟨#[0xb1]⟩ 1 none ∈ tables_1) (hW : (S.map fun v => v.category).sum = W) (hc : 1 ≤ M.2.2.2.2.frames ∧ W + 12 ≤ M.2.2.2.2.locals) (h : Runs C M k n q P S G Q) : Runs C M k n pc P (.ref a :: S) G Q := by
  intro hw p e s m args below meth c T locs L hx hby hml hr0 hnm hown hZ hf hsz X hR hF
  have hqq := d.2
  subst hqq
  obtain ⟨T1, X1, e1, st1⟩ := Jvm.RoadKit.initO X hx hZ hown (hw _ w1) (hw _ w2) (hw _ w3) rfl (g := mkF m pc L (.ref a :: S)) rfl (by rw [hml]; exact hsz) rfl (hb hby d.1) hc.1 (W := W) (by show 2 * 0 + _ ≤ _; omega) hc.2
  obtain ⟨T', locs', k', n', r, G', g1, g2, g3, g4, g5, g6, g7, g8⟩ := h hw p e s m args below meth c T1 _ L hx hby hml hr0 hnm hown hZ hf hsz X1 (by rw [e1]; exact hR) hF
  exact ⟨T', locs', k', n', r, G', g1, g2, g3, g4, g5, g6, g7, fun fs hr => st1 _ (g8 fs hr)⟩
end Heap
/- a body's contract, and the calls that are paid by one -/
def Pays (C : Ctx) (N : Bdy) (as : List Value) (G : AH) (Q : Option Value → AH → Prop) : Prop :=
  Ok C → ∀ h0 : Heap, Rep C.2.1 C.2.2.1 h0 G → ∀ ws : List Jvm.Cond, MetFree C.1 N.1 (head1 (Jvm.Cond.code N.1 N.2.1 N.2.2.1 N.2.2.2.1 :: ws) N.2.2.2.2) (fun a U => a = as.toArray ∧ C.2.1.Warmed39 U.vm ∧ U.heap = h0) (fun _ _ _ _ _ => True)
    (fun _ U o U' => ∃ v L, o = .returned v ∧ (Fr C.2.2.1 L ∧ ∃ G', Rep C.2.1 C.2.2.1 U'.heap G' ∧ Q v G') ∧ FrameEnd U o U' L N.2.2.2.2.cells N.2.2.2.2.slots)
def lay : List Value → List Slot
  | [] => []
  | v :: l => if v.category = 2 then .val v :: .second :: lay l else .val v :: lay l
theorem lay_foldl (l : List Value) : ∀ acc : Array Slot, (l.foldl (fun acc v => if v.category = 2 then (acc.push (.val v)).push .second else acc.push (.val v)) acc).toList = acc.toList ++ lay l := by
  induction l with
  | nil => intro acc; simp [lay]
  | cons v l ih =>
    intro acc
    rw [List.foldl_cons, ih]
    by_cases h : v.category = 2 <;> simp [lay, h]
theorem args_lay (as : List Value) (ml : Nat) : argsToLocals as.toArray ml = (lay as ++ List.replicate (ml - (lay as).length) Slot.unset).toArray := by
  have h := lay_foldl as #[]
  apply Array.ext'
  simp only [argsToLocals, Array.toList_append, List.toList_toArray] at *
  rw [show (as.toArray.foldl (init := #[]) fun acc v => if v.category = 2 then (acc.push (Slot.val v)).push .second else acc.push (.val v)).toList = lay as by simpa using h]
  congr 1
  rw [← Array.length_toList, show (as.toArray.foldl (init := #[]) fun acc v => if v.category = 2 then (acc.push (Slot.val v)).push .second else acc.push (.val v)).toList = lay as by simpa using h]
  simp
def WFL (l : List Slot) : Prop := (∀ i : Nat, l[i]? = some .second → ∃ (j : Nat) (v : Value), i = j + 1 ∧ l[j]? = some (.val v) ∧ v.category = 2) ∧ (∀ (i : Nat) (v : Value), l[i]? = some (.val v) → v.category = 2 → l[i + 1]? = some .second)
theorem WFL.unset (n : Nat) : WFL (List.replicate n Slot.unset) := by
  refine ⟨fun i h => ?_, fun i v h => ?_⟩ <;> (rw [List.getElem?_replicate] at h; split at h <;> cases h)
theorem WFL.one {l : List Slot} {v : Value} (h : WFL l) (hv : v.category ≠ 2) : WFL (.val v :: l) := by
  refine ⟨fun i hi => ?_, fun i w hi hw => ?_⟩
  · cases i with
    | zero => simp at hi
    | succ i =>
      obtain ⟨j, w, e1, e2, e3⟩ := h.1 i (by simpa using hi)
      exact ⟨j + 1, w, by omega, by simpa using e2, e3⟩
  · cases i with
    | zero => simp at hi; subst hi; exact absurd hw hv
    | succ i => have := h.2 i w (by simpa using hi) hw; simpa using this
theorem WFL.two {l : List Slot} {v : Value} (h : WFL l) (hv : v.category = 2) : WFL (.val v :: .second :: l) := by
  refine ⟨fun i hi => ?_, fun i w hi hw => ?_⟩
  · match i, hi with
    | 0, hi => simp at hi
    | 1, hi => exact ⟨0, v, rfl, by simp, hv⟩
    | i + 2, hi =>
      obtain ⟨j, w, e1, e2, e3⟩ := h.1 i (by simpa using hi)
      exact ⟨j + 2, w, by omega, by simpa using e2, e3⟩
  · match i, hi with
    | 0, hi => simp
    | 1, hi => simp at hi
    | i + 2, hi => have := h.2 i w (by simpa using hi) hw; simpa using this
theorem WFL.lay (as : List Value) (n : Nat) : WFL (lay as ++ List.replicate n Slot.unset) := by
  induction as with
  | nil => exact WFL.unset n
  | cons v l ih =>
    by_cases h : v.category = 2
    · simpa [Jvm.Pilot.@@N@@.lay, h] using ih.two h
    · simpa [Jvm.Pilot.@@N@@.lay, h] using ih.one h
def pforget : List Bool → Pat → Pat
  | [], _ => []
  | _, [] => []
  | true :: ms, x :: l => x :: pforget ms l
  | false :: ms, _ :: l => none :: pforget ms l
theorem pforget_get : ∀ (ms : List Bool) (P : Pat) (i : Nat) (s : Slot), pget (pforget ms P) i = some s → pget P i = some s
  | [], _, i, s, h => by simp [pforget, pget] at h
  | _ :: _, [], i, s, h => by simp [pforget, pget] at h
  | true :: ms, x :: l, 0, s, h => h
  | true :: ms, x :: l, i + 1, s, h => pforget_get ms l i s h
  | false :: ms, x :: l, 0, s, h => by simp [pforget, pget] at h
  | false :: ms, x :: l, i + 1, s, h => pforget_get ms l i s h
section Calls
variable {C : Ctx} {M N : Bdy} {k n pc q : Nat} {P P' : Pat} {S S' : List Value} {G G1 : AH} {Q : Option Value → AH → Prop} {top : Nat} {a : Nat} {qq j idx W : Nat} {ob : Rec} {H : List (Nat × Nat × Rec)} {as : List Value}
theorem Runs.forget (ms : List Bool) (hP : pforget ms P = P') (h : Runs C M k n pc P' S G Q) : Runs C M k n pc P S G Q := by
  intro hw p e s m args below meth c T locs L hx hby hml hret hnm hown hZ hf
  subst hP
  exact h hw p e s m args below meth c T locs L hx hby hml hret hnm hown hZ ⟨fun i s hi => hf.1 i s (pforget_get _ _ i s hi), hf.2⟩
theorem Pays.of (hpl : plainName N.1.cls = true) (hml : (lay as).length ≤ N.2.2.1) (x : Nat) (hP : (lay as).map some ++ List.replicate x none = P) (h : Runs C N 0 0 0 P [] G Q) : Pays C N as G Q := by
  intro hw h0 hR ws
  refine MetFree.of_bodySF (plainFor_of_name hpl) hisR ?_
  intro p e s m args below meth c s₁ Bd hml0 hp hK
  obtain ⟨rfl, hZ, hh⟩ := hp
  have X0 : Stand p C.1 e N.2.2.2.2 s m as.toArray below meth c s₁ [] 0 0 := Stand.of_body Bd
  have e0 : s₁.heap = h0 := by rw [← hh, Bd.state]; rfl
  obtain ⟨L, hL⟩ : ∃ L : Array Slot, L = (lay as ++ List.replicate (N.2.2.1 - (lay as).length) Slot.unset).toArray := ⟨_, rfl⟩
  have hfit : Fits P L := by
    subst hP hL
    refine ⟨fun i s hi => ?_, ?_⟩
    · rw [pget_eq] at hi
      cases hq : (lay as)[i]? with
      | none =>
        rw [List.getElem?_append_right (by simpa using hq), List.getElem?_replicate] at hi
        split at hi <;> simp at hi
      | some y =>
        have hlt := (List.getElem?_eq_some_iff.mp hq).1
        rw [List.getElem?_append_left (by simpa using hlt), List.getElem?_map, hq] at hi
        have this : y = s := by simpa using hi
        simp only [List.getElem?_toArray]
        rw [List.getElem?_append_left hlt, hq, this]
    · have := WFL.lay as (N.2.2.1 - (lay as).length)
      refine ⟨fun i hi => ?_, fun i v hi hv => ?_⟩
      · rw [List.getElem?_toArray] at hi
        obtain ⟨j, v, e1, e2, e3⟩ := this.1 i hi
        exact ⟨j, v, e1, by rw [List.getElem?_toArray]; exact e2, e3⟩
      · rw [List.getElem?_toArray] at hi ⊢
        exact this.2 i v hi hv
  obtain ⟨T', locs', k', n', r, G', g1, g2, g3, g4, g5, g6, g7, g8⟩ := h hw p e s m as.toArray below meth c s₁ [] L Bd.exec Bd.bytes hml0 Bd.returns (name_of_methodNamed Bd.named Bd.method).1 (findClass_of_methodNamed Bd.named) hZ hfit (by rw [hL]; simp; omega) X0 (by rw [e0]; exact hR) (Fr.nil _)
  obtain ⟨fs, hr, hrun, hended, hW, hsame⟩ := g1.leave (v := r) (fun u => g7 (by rw [← Bd.returns]; exact u))
  refine ⟨_, _, ?_, hrun, hended, _, _, rfl, ⟨g5, G', ?_, g6⟩, ⟨_, rfl⟩, hW, hsame.mono g2 g3⟩
  · have ef : entryFrame m as.toArray N.2.2.1 = mkF m 0 L [] := by
      rw [hL, ← args_lay]; rfl
    rw [ef]; exact g8 fs hr
  · exact g4
abbrev room_al (M N : Bdy) (W k n : Nat) : Prop := N.2.2.2.2.frames + 1 ≤ M.2.2.2.2.frames ∧ W + (N.2.2.1 + 11) + N.2.2.2.2.locals ≤ M.2.2.2.2.locals ∧ k + N.2.2.2.2.cells ≤ M.2.2.2.2.cells ∧ n + N.2.2.2.2.slots ≤ M.2.2.2.2.slots
abbrev room_ok (M N : Bdy) (W : Nat) : Prop := N.2.2.2.2.frames + 1 ≤ M.2.2.2.2.frames ∧ W + (N.2.2.1 + 11) + N.2.2.2.2.locals ≤ M.2.2.2.2.locals ∧ N.2.2.2.2.cells = 0 ∧ N.2.2.2.2.slots = 0
abbrev full_ok (M : Bdy) (k n : Nat) : Prop := k ≤ M.2.2.2.2.cells ∧ n ≤ M.2.2.2.2.slots
theorem room_ok.al (h : room_ok M N W) (f : full_ok M k n) : room_al M N W k n := ⟨h.1, h.2.1, by rw [h.2.2.1]; exact f.1, by rw [h.2.2.2]; exact f.2⟩
abbrev code_w (N : Bdy) : Prop := Jvm.Cond.code N.1 N.2.1 N.2.2.1 N.2.2.2.1 ∈ tables_1 ∧ Jvm.Cond.initialized N.1.cls ∈ tables_1 ∧ (N.1.cls ≠ "java/lang/invoke/MethodHandle" ∧ N.1.cls ≠ "java/lang/invoke/VarHandle")
def arity (N : Bdy) (na : Nat) : Prop := ∃ ps r, parseMethodDescriptor N.1.desc = some ⟨ps, r⟩ ∧ na = ps.length
theorem arity.len {na : Nat} (h : arity N na) (e : as.length = na) : ∀ sig, parseMethodDescriptor N.1.desc = some sig → as.length = sig.parameters.length := by
  obtain ⟨ps, r, h1, h2⟩ := h
  exact lenOf h1 (e.trans h2)
theorem after_call {v : Option Value} {p : Program} {e : Env} {s : State} {m : MethodId} {args : Array Value} {below : List Frame} {meth : Method} {c : Code} {T T0 : State} {locs : List Loc} {L : Array Slot} {QN : Option Value → AH → Prop} {Lc : List Loc}
    (hw : Ok C) (hx : p.tables.exec = Jvm.exec) (hby : c.code = M.2.1) (hml : c.maxLocals = M.2.2.1) (hret : meth.sig.returnType = M.2.2.2.1) (hnm : meth.name = M.1.name) (hown : s.vm.findClass M.1.cls = some m.cls) (hZ : C.2.1.Warmed39 s.vm) (hf : Fits P L) (hsz : L.size = M.2.2.1) (hF : Fr C.2.2.1 locs)
    (X : Stand p C.1 e M.2.2.2.2 s m args below meth c T (locs ++ Lc) (k + N.2.2.2.2.cells) (n + N.2.2.2.2.slots)) (hQ : Fr C.2.2.1 Lc ∧ ∃ G', Rep C.2.1 C.2.2.1 T.heap G' ∧ QN v G')
    (h : ∀ v G', QN v G' → Runs C M (k + N.2.2.2.2.cells) (n + N.2.2.2.2.slots) (pc + 3) P (v.toList ++ S') G' Q)
    (st : ∀ t, Steps p.tables e below (T.setTop (mkF m (pc + 3) L (v.toList ++ S'))) t → Steps p.tables e below (T0.setTop (mkF m pc L S)) t) :
    ∃ (T' : State) (locs' : List Loc) (k' n' : Nat) (r : Option Value) (G' : AH), Stand p C.1 e M.2.2.2.2 s m args below meth c T' locs' k' n' ∧ k' ≤ M.2.2.2.2.cells ∧ n' ≤ M.2.2.2.2.slots ∧ Rep C.2.1 C.2.2.1 T'.heap G' ∧ Fr C.2.2.1 locs' ∧ Q r G' ∧
      (M.2.2.2.1 = none → r = none) ∧
      ∀ fs : List Frame, (∀ (f : JFrame) (acts : List Action), f.method = m → f.locked = none → f.entered = [] → (doReturn e (T'.setTop f) acts r).1 = T'.setFrames fs) → Steps p.tables e below (T0.setTop (mkF m pc L S)) (T'.setFrames fs) := by
  obtain ⟨f1, G', f2, f3⟩ := hQ
  obtain ⟨T', locs', k', n', r, G'', g1, g2, g3, g4, g5, g6, g7, g8⟩ := h v G' f3 hw p e s m args below meth c T _ L hx hby hml hret hnm hown hZ hf hsz X f2 (Fr.app hF f1)
  exact ⟨T', locs', k', n', r, G'', g1, g2, g3, g4, g5, g6, g7, fun fs hr => st _ (g8 fs hr)⟩
theorem Runs.callS {QN : Option Value → AH → Prop} (d : DAt M pc (.invokestatic idx) 3 q) (wl : Jvm.Cond.methodLink M.1.cls idx N.1 ∈ tables_1) (wt : Jvm.Cond.static N.1 ∈ tables_1) (wc : code_w N) (ar : arity N as.length) (hr0 : room_ok M N W) (hfull : full_ok M k n) (hS : S = as.reverse ++ S') (hW : (S'.map fun v => v.category).sum = W)
    (hN : Pays C N as G QN) (h : ∀ v G', QN v G' → Runs C M k n q P (v.toList ++ S') G' Q) : Runs C M k n pc P S G Q := by
  intro hw p e s m args below meth c T locs L hx hby hml hret hnm hown hZ hf hsz X hR hF
  have hq := d.2
  subst hq hS
  have hr := hr0.al hfull
  obtain ⟨_, _, ⟨T1, L1, k1, n1⟩, -, X1, ⟨Lc, hQ, l1, y1, z1⟩, st⟩ := Jvm.LawKit.callS X hx (y := N.1) hown (mvT hZ (hw _ wl)) (mvT hZ (hw _ wt)) (mvT hZ (hw _ wc.2.1)) (mvT hZ (hw _ wc.1)) wc.2.2 (backOf (W := W) (Q := fun v h L => Fr C.2.2.1 L ∧ ∃ G', Rep C.2.1 C.2.2.1 h G' ∧ QN v G') (hN hw T.heap hR []) hZ (hw _ wc.1) (hw _ wc.2.1) hr.1 hr.2.1) (g := mkF m pc L (as.reverse ++ S')) rfl (by rw [hml]; exact hsz) (argsL := as) (rest := S') (ar.len rfl) rfl (by show 2 * 0 + _ ≤ _; omega) (hb hby d.1) (fun _ _ => ⟨rfl, rfl, hr.2.2.1, hr.2.2.2⟩)
  dsimp only [Pt.U, Pt.locs, Pt.cells, Pt.slots] at X1 l1 y1 z1 st hQ
  subst l1 y1 z1
  exact after_call hw hx hby hml hret hnm hown hZ hf hsz hF X1 hQ (by rw [hr0.2.2.1, hr0.2.2.2]; exact h) (fun t u => st t u)
theorem Runs.callV {QN : Option Value → AH → Prop} (d : DAt M pc (.invokevirtual idx) 3 q) (wl : Jvm.Cond.methodLink M.1.cls idx N.1 ∈ tables_1) (wd : Jvm.Cond.declares N.1 ∈ tables_1) (wi : Jvm.Cond.instanceMethod N.1 ∈ tables_1) (ws : Jvm.Cond.selects K.1 N.1 N.1 ∈ tables_1) (wc : code_w N) (ar : arity N as.length) (hr0 : room_ok M N W) (hfull : full_ok M k n) (hS : S = as.reverse ++ .ref a :: S') (hW : (S'.map fun v => v.category).sum = W)
    (hN : Pays C N (.ref a :: as) (top, (a, qq, ob) :: H) QN) (h : ∀ v G', QN v G' → Runs C M k n q P (v.toList ++ S') G' Q) : Runs C M k n pc P S (top, (a, qq, ob) :: H) Q := by
  intro hw p e s m args below meth c T locs L hx hby hml hret hnm hown hZ hf hsz X hR hF
  have hq := d.2
  subst hq hS
  have hr := hr0.al hfull
  obtain ⟨cB, kB, u1, -, u3⟩ := isOf hZ rfl hR.objs.2.2.1
  obtain ⟨_, _, ⟨T1, L1, k1, n1⟩, -, X1, ⟨Lc, hQ, l1, y1, z1⟩, st⟩ := X.virtualBack hx (y := N.1) (z := N.1) hown (mvT hZ (hw _ wl)) (mvT hZ (hw _ wd)) (notFace_of_selects (args := #[]) (mvT hZ (hw _ ws))) (mvT hZ (hw _ ws)) (mvT hZ (hw _ wi)) wc.2.2 (backOf (W := W) (Q := fun v h L => Fr C.2.2.1 L ∧ ∃ G', Rep C.2.1 C.2.2.1 h G' ∧ QN v G') (hN hw T.heap hR []) hZ (hw _ wc.1) (hw _ wc.2.1) hr.1 hr.2.1) u1 u3 (g := mkF m pc L (as.reverse ++ .ref a :: S')) rfl (by rw [hml]; exact hsz) (Steps.refl _) (argsL := as) (rest := S') (ar.len rfl) rfl (by show 2 * 0 + _ ≤ _; omega) (hb hby d.1) (fun _ _ => ⟨rfl, rfl, hr.2.2.1, hr.2.2.2⟩)
  dsimp only [Pt.U, Pt.locs, Pt.cells, Pt.slots] at X1 l1 y1 z1 st hQ
  subst l1 y1 z1
  exact after_call hw hx hby hml hret hnm hown hZ hf hsz hF X1 hQ (by rw [hr0.2.2.1, hr0.2.2.2]; exact h) (fun t u => st.trans u)
theorem Runs.callP {QN : Option Value → AH → Prop} (d : DAt M pc (.invokevirtual idx) 3 q) (wl : Jvm.Cond.methodLink M.1.cls idx N.1 ∈ tables_1) (wi : Jvm.Cond.instanceMethod N.1 ∈ tables_1) (wp : Jvm.Cond.privateMethod N.1 ∈ tables_1) (wK : N.1.cls = K.1) (wc : code_w N) (ar : arity N as.length) (hr0 : room_ok M N W) (hfull : full_ok M k n) (hS : S = as.reverse ++ .ref a :: S') (hW : (S'.map fun v => v.category).sum = W)
    (hN : Pays C N (.ref a :: as) (top, (a, qq, ob) :: H) QN) (h : ∀ v G', QN v G' → Runs C M k n q P (v.toList ++ S') G' Q) : Runs C M k n pc P S (top, (a, qq, ob) :: H) Q := by
  intro hw p e s m args below meth c T locs L hx hby hml hret hnm hown hZ hf hsz X hR hF
  have hq := d.2
  subst hq hS
  have hr := hr0.al hfull
  obtain ⟨cl, u1, u2⟩ := hR.objs.2.2.1.cell
  have hpr : s.PrivateAt N.1 := Cond.privateMethod_at (mvP hZ (hw _ wp) (args := #[]))
  obtain ⟨c2, k2, i1, i2, i3, i4, -⟩ := Cond.instantiable_spec (mvT (args := args) hZ (hw _ kI))
  have hsel : (Jvm.Cond.selects N.1.cls N.1 N.1).before args s = true := Stand.selects_self_of_private (by rw [wK]; exact i1) i2 (by simp at i4; exact i4.1) hpr (mvT hZ (hw _ wi)) wc.2.2
  obtain ⟨_, _, ⟨T1, L1, k1, n1⟩, -, X1, ⟨Lc, hQ, l1, y1, z1⟩, st⟩ := X.privateBack hx (y := N.1) hown (mvT hZ (hw _ wl)) (mvT hZ (hw _ wi)) hsel hpr (mvT hZ (hw _ wc.1)) wc.2.2 (backOf (W := W) (Q := fun v h L => Fr C.2.2.1 L ∧ ∃ G', Rep C.2.1 C.2.2.1 h G' ∧ QN v G') (hN hw T.heap hR []) hZ (hw _ wc.1) (hw _ wc.2.1) hr.1 hr.2.1) (g := mkF m pc L (as.reverse ++ .ref a :: S')) rfl (by rw [hml]; exact hsz) (Steps.refl _) (a := a) u1 u2 (argsL := as) (rest := S') (ar.len rfl) rfl (by show 2 * 0 + _ ≤ _; omega) (hb hby d.1) (fun _ _ => ⟨rfl, rfl, hr.2.2.1, hr.2.2.2⟩)
  dsimp only [Pt.U, Pt.locs, Pt.cells, Pt.slots] at X1 l1 y1 z1 st hQ
  subst l1 y1 z1
  exact after_call hw hx hby hml hret hnm hown hZ hf hsz hF X1 hQ (by rw [hr0.2.2.1, hr0.2.2.2]; exact h) (fun t u => st.trans u)
theorem Runs.callI {QN : Option Value → AH → Prop} (d : DAt M pc (.invokespecial idx) 3 q) (hi : N.1.name = "<init>") (hn : N.2.2.2.1 = none) (wl : Jvm.Cond.methodLink M.1.cls idx N.1 ∈ tables_1) (wi : Jvm.Cond.instanceMethod N.1 ∈ tables_1) (wc : code_w N) (ar : arity N as.length) (hr : room_al M N W k n) (hS : S = as.reverse ++ .ref a :: S') (hW : (S'.map fun v => v.category).sum = W) {k' n' : Nat} (hk' : k + N.2.2.2.2.cells = k') (hn' : n + N.2.2.2.2.slots = n')
    (hN : Pays C N (.ref a :: as) G QN) (h : ∀ v G', QN v G' → Runs C M k' n' q P (v.toList ++ S') G' Q) : Runs C M k n pc P S G Q := by
  intro hw p e s m args below meth c T locs L hx hby hml hret hnm hown hZ hf hsz X hR hF
  have hq := d.2
  subst hq hS hk' hn'
  have wc1 := hw _ wc.1
  obtain ⟨_, _, ⟨T1, L1, k1, n1⟩, -, X1, ⟨Lc, hQ, l1, y1, z1⟩, st⟩ := X.specialBack hx (y := N.1) hi hown (mvT hZ (hw _ wl)) (mvT hZ (hw _ wi)) (bytes := N.2.1) (maxL := N.2.2.1) (by have := mvT (args := args) hZ wc1; rw [hn] at this; exact this) wc.2.2 (backOf (W := W) (Q := fun v h L => Fr C.2.2.1 L ∧ ∃ G', Rep C.2.1 C.2.2.1 h G' ∧ QN v G') (hN hw T.heap hR []) hZ wc1 (hw _ wc.2.1) hr.1 hr.2.1) (g := mkF m pc L (as.reverse ++ .ref a :: S')) rfl (by rw [hml]; exact hsz) (Steps.refl _) (a := a) (argsL := as) (rest := S') (ar.len rfl) rfl (by show 2 * 0 + _ ≤ _; omega) (hb hby d.1) (fun _ _ => ⟨rfl, rfl, hr.2.2.1, hr.2.2.2⟩)
  dsimp only [Pt.U, Pt.locs, Pt.cells, Pt.slots] at X1 l1 y1 z1 st hQ
  subst l1 y1 z1
  exact after_call hw hx hby hml hret hnm hown hZ hf hsz hF X1 hQ h (fun t u => st.trans u)
/-- the plain form of a contract: one answer, one heap -/
abbrev Ans (r : Option Value) (G1 : AH) : Option Value → AH → Prop := fun v G' => v = r ∧ G' = G1
theorem ans1 {x : Value} {k n : Nat} (h : Runs C M k n pc P (x :: S) G1 Q) : ∀ v G', Ans (some x) G1 v G' → Runs C M k n pc P (v.toList ++ S) G' Q := by
  rintro v G' ⟨rfl, rfl⟩; exact h
theorem ans0 {k n : Nat} (h : Runs C M k n pc P S G1 Q) : ∀ v G', Ans none G1 v G' → Runs C M k n pc P (v.toList ++ S) G' Q := by
  rintro v G' ⟨rfl, rfl⟩; exact h
end Calls
theorem pnK : plainName "MirrorResync" = true := by first | (simp [plainName, overriddenIn]; done) | decide +kernel
theorem pnL : plainName "MirrorResyncL3" = true := by first | (simp [plainName, overriddenIn]; done) | decide +kernel
theorem w0 : (Jvm.Cond.classLink "MirrorResyncL3" (7 : Nat) "MirrorResync") ∈ tables_1 := mem1 0 rfl
theorem w3 : (Jvm.Cond.methodLink "MirrorResyncL3" (9 : Nat) ({ cls := "MirrorResync", name := "<init>", desc := "(III)V" } : Jvm.MethodName)) ∈ tables_1 := mem1 3 rfl
theorem w4 : (Jvm.Cond.instanceMethod ({ cls := "MirrorResync", name := "<init>", desc := "(III)V" } : Jvm.MethodName)) ∈ tables_1 := mem1 4 rfl
theorem w6 : (Jvm.Cond.methodLink "MirrorResync" (1 : Nat) ({ cls := "java/lang/Object", name := "<init>", desc := "()V" } : Jvm.MethodName)) ∈ tables_1 := mem1 6 rfl
theorem w7 : (Jvm.Cond.instanceMethod ({ cls := "java/lang/Object", name := "<init>", desc := "()V" } : Jvm.MethodName)) ∈ tables_1 := mem1 7 rfl
theorem w8 : (Jvm.Cond.code ({ cls := "java/lang/Object", name := "<init>", desc := "()V" } : Jvm.MethodName) object_method_1_code (1 : Nat) (Option.none : Option Jvm.ClassFile.FieldType)) ∈ tables_1 := mem1 8 rfl
theorem w9 : (Jvm.Cond.arrayClass Jvm.ClassFile.FieldType.int) ∈ tables_1 := mem1 9 rfl
theorem w10 : (Jvm.Cond.fieldLink "MirrorResync" (7 : Nat) "MirrorResync" "data" "[I") ∈ tables_1 := mem1 10 rfl
theorem w11 : (Jvm.Cond.lays "MirrorResync" "MirrorResync" "data" "[I") ∈ tables_1 := mem1 11 rfl
theorem w12 : (Jvm.Cond.fieldLink "MirrorResync" (13 : Nat) "MirrorResync" "acked" "[I") ∈ tables_1 := mem1 12 rfl
theorem w13 : (Jvm.Cond.lays "MirrorResync" "MirrorResync" "acked" "[I") ∈ tables_1 := mem1 13 rfl
theorem w14 : (Jvm.Cond.fieldLink "MirrorResync" (16 : Nat) "MirrorResync" "state" "[I") ∈ tables_1 := mem1 14 rfl
theorem w15 : (Jvm.Cond.lays "MirrorResync" "MirrorResync" "state" "[I") ∈ tables_1 := mem1 15 rfl
theorem w16 : (Jvm.Cond.arrayClass Jvm.ClassFile.FieldType.boolean) ∈ tables_1 := mem1 16 rfl
theorem w17 : (Jvm.Cond.fieldLink "MirrorResync" (19 : Nat) "MirrorResync" "dirty" "[Z") ∈ tables_1 := mem1 17 rfl
theorem w18 : (Jvm.Cond.lays "MirrorResync" "MirrorResync" "dirty" "[Z") ∈ tables_1 := mem1 18 rfl
theorem w19 : (Jvm.Cond.fieldLink "MirrorResync" (23 : Nat) "MirrorResync" "pending" "[Z") ∈ tables_1 := mem1 19 rfl
theorem w20 : (Jvm.Cond.lays "MirrorResync" "MirrorResync" "pending" "[Z") ∈ tables_1 := mem1 20 rfl
theorem w21 : (Jvm.Cond.fieldLink "MirrorResync" (26 : Nat) "MirrorResync" "age" "[I") ∈ tables_1 := mem1 21 rfl
theorem w22 : (Jvm.Cond.lays "MirrorResync" "MirrorResync" "age" "[I") ∈ tables_1 := mem1 22 rfl
theorem w23 : (Jvm.Cond.methodLink "MirrorResync" (29 : Nat) ({ cls := "MirrorResync", name := "clamp", desc := "(III)I" } : Jvm.MethodName)) ∈ tables_1 := mem1 23 rfl
theorem w24 : (Jvm.Cond.static ({ cls := "MirrorResync", name := "clamp", desc := "(III)I" } : Jvm.MethodName)) ∈ tables_1 := mem1 24 rfl
theorem w26 : (Jvm.Cond.fieldLink "MirrorResync" (33 : Nat) "MirrorResync" "n" "I") ∈ tables_1 := mem1 26 rfl
theorem w27 : (Jvm.Cond.lays "MirrorResync" "MirrorResync" "n" "I") ∈ tables_1 := mem1 27 rfl
theorem w28 : (Jvm.Cond.fieldLink "MirrorResync" (37 : Nat) "MirrorResync" "regionSize" "I") ∈ tables_1 := mem1 28 rfl
theorem w29 : (Jvm.Cond.lays "MirrorResync" "MirrorResync" "regionSize" "I") ∈ tables_1 := mem1 29 rfl
theorem w30 : (Jvm.Cond.fieldLink "MirrorResync" (40 : Nat) "MirrorResync" "clearDelay" "I") ∈ tables_1 := mem1 30 rfl
theorem w31 : (Jvm.Cond.lays "MirrorResync" "MirrorResync" "clearDelay" "I") ∈ tables_1 := mem1 31 rfl
theorem w32 : (Jvm.Cond.fieldLink "MirrorResync" (43 : Nat) "MirrorResync" "regions" "I") ∈ tables_1 := mem1 32 rfl
theorem w33 : (Jvm.Cond.lays "MirrorResync" "MirrorResync" "regions" "I") ∈ tables_1 := mem1 33 rfl
theorem w34 : (Jvm.Cond.fieldLink "MirrorResync" (46 : Nat) "MirrorResync" "down" "Z") ∈ tables_1 := mem1 34 rfl
theorem w35 : (Jvm.Cond.lays "MirrorResync" "MirrorResync" "down" "Z") ∈ tables_1 := mem1 35 rfl
theorem w36 : (Jvm.Cond.fieldLink "MirrorResync" (50 : Nat) "MirrorResync" "busy" "Z") ∈ tables_1 := mem1 36 rfl
theorem w37 : (Jvm.Cond.lays "MirrorResync" "MirrorResync" "busy" "Z") ∈ tables_1 := mem1 37 rfl
theorem w38 : (Jvm.Cond.fieldLink "MirrorResync" (53 : Nat) "MirrorResync" "pBlock" "I") ∈ tables_1 := mem1 38 rfl
theorem w39 : (Jvm.Cond.lays "MirrorResync" "MirrorResync" "pBlock" "I") ∈ tables_1 := mem1 39 rfl
theorem w40 : (Jvm.Cond.fieldLink "MirrorResync" (56 : Nat) "MirrorResync" "pValue" "I") ∈ tables_1 := mem1 40 rfl
theorem w41 : (Jvm.Cond.lays "MirrorResync" "MirrorResync" "pValue" "I") ∈ tables_1 := mem1 41 rfl
theorem w42 : (Jvm.Cond.fieldLink "MirrorResync" (59 : Nat) "MirrorResync" "pCursor" "I") ∈ tables_1 := mem1 42 rfl
theorem w43 : (Jvm.Cond.lays "MirrorResync" "MirrorResync" "pCursor" "I") ∈ tables_1 := mem1 43 rfl
theorem w44 : (Jvm.Cond.constant "MirrorResyncL3" (12 : Nat) (65535 : Int32)) ∈ tables_1 := mem1 44 rfl
theorem w45 : (Jvm.Cond.methodLink "MirrorResyncL3" (13 : Nat) ({ cls := "MirrorResync", name := "write", desc := "(II)I" } : Jvm.MethodName)) ∈ tables_1 := mem1 45 rfl
theorem w46 : (Jvm.Cond.declares ({ cls := "MirrorResync", name := "write", desc := "(II)I" } : Jvm.MethodName)) ∈ tables_1 := mem1 46 rfl
theorem w47 : (Jvm.Cond.instanceMethod ({ cls := "MirrorResync", name := "write", desc := "(II)I" } : Jvm.MethodName)) ∈ tables_1 := mem1 47 rfl
theorem w48 : (Jvm.Cond.selects "MirrorResync" ({ cls := "MirrorResync", name := "write", desc := "(II)I" } : Jvm.MethodName) ({ cls := "MirrorResync", name := "write", desc := "(II)I" } : Jvm.MethodName)) ∈ tables_1 := mem1 48 rfl
theorem w50 : (Jvm.Cond.methodLink "MirrorResync" (62 : Nat) ({ cls := "MirrorResync", name := "validBlock", desc := "(I)Z" } : Jvm.MethodName)) ∈ tables_1 := mem1 50 rfl
theorem w51 : (Jvm.Cond.instanceMethod ({ cls := "MirrorResync", name := "validBlock", desc := "(I)Z" } : Jvm.MethodName)) ∈ tables_1 := mem1 51 rfl
theorem w52 : (Jvm.Cond.privateMethod ({ cls := "MirrorResync", name := "validBlock", desc := "(I)Z" } : Jvm.MethodName)) ∈ tables_1 := mem1 52 rfl
theorem w54 : (Jvm.Cond.constant "MirrorResync" (66 : Nat) (65535 : Int32)) ∈ tables_1 := mem1 54 rfl
theorem w55 : (Jvm.Cond.methodLink "MirrorResync" (67 : Nat) ({ cls := "MirrorResync", name := "markDirty", desc := "(I)V" } : Jvm.MethodName)) ∈ tables_1 := mem1 55 rfl
theorem w56 : (Jvm.Cond.instanceMethod ({ cls := "MirrorResync", name := "markDirty", desc := "(I)V" } : Jvm.MethodName)) ∈ tables_1 := mem1 56 rfl
theorem w57 : (Jvm.Cond.privateMethod ({ cls := "MirrorResync", name := "markDirty", desc := "(I)V" } : Jvm.MethodName)) ∈ tables_1 := mem1 57 rfl
theorem w59 : (Jvm.Cond.methodLink "MirrorResyncL3" (17 : Nat) ({ cls := "MirrorResync", name := "step", desc := "()I" } : Jvm.MethodName)) ∈ tables_1 := mem1 59 rfl
theorem w60 : (Jvm.Cond.declares ({ cls := "MirrorResync", name := "step", desc := "()I" } : Jvm.MethodName)) ∈ tables_1 := mem1 60 rfl
theorem w61 : (Jvm.Cond.instanceMethod ({ cls := "MirrorResync", name := "step", desc := "()I" } : Jvm.MethodName)) ∈ tables_1 := mem1 61 rfl
theorem w62 : (Jvm.Cond.selects "MirrorResync" ({ cls := "MirrorResync", name := "step", desc := "()I" } : Jvm.MethodName) ({ cls := "MirrorResync", name := "step", desc := "()I" } : Jvm.MethodName)) ∈ tables_1 := mem1 62 rfl
theorem w64 : (Jvm.Cond.methodLink "MirrorResync" (71 : Nat) ({ cls := "MirrorResync", name := "acknowledge", desc := "()V" } : Jvm.MethodName)) ∈ tables_1 := mem1 64 rfl
theorem w65 : (Jvm.Cond.instanceMethod ({ cls := "MirrorResync", name := "acknowledge", desc := "()V" } : Jvm.MethodName)) ∈ tables_1 := mem1 65 rfl
theorem w66 : (Jvm.Cond.privateMethod ({ cls := "MirrorResync", name := "acknowledge", desc := "()V" } : Jvm.MethodName)) ∈ tables_1 := mem1 66 rfl
theorem w68 : (Jvm.Cond.methodLink "MirrorResync" (74 : Nat) ({ cls := "MirrorResync", name := "clearPending", desc := "()V" } : Jvm.MethodName)) ∈ tables_1 := mem1 68 rfl
theorem w69 : (Jvm.Cond.instanceMethod ({ cls := "MirrorResync", name := "clearPending", desc := "()V" } : Jvm.MethodName)) ∈ tables_1 := mem1 69 rfl
theorem w70 : (Jvm.Cond.privateMethod ({ cls := "MirrorResync", name := "clearPending", desc := "()V" } : Jvm.MethodName)) ∈ tables_1 := mem1 70 rfl
theorem w72 : (Jvm.Cond.methodLink "MirrorResync" (101 : Nat) ({ cls := "MirrorResync", name := "ageOthers", desc := "(I)V" } : Jvm.MethodName)) ∈ tables_1 := mem1 72 rfl
theorem w73 : (Jvm.Cond.instanceMethod ({ cls := "MirrorResync", name := "ageOthers", desc := "(I)V" } : Jvm.MethodName)) ∈ tables_1 := mem1 73 rfl
theorem w74 : (Jvm.Cond.privateMethod ({ cls := "MirrorResync", name := "ageOthers", desc := "(I)V" } : Jvm.MethodName)) ∈ tables_1 := mem1 74 rfl
theorem w76 : (Jvm.Cond.methodLink "MirrorResync" (104 : Nat) ({ cls := "MirrorResync", name := "bothActive", desc := "()Z" } : Jvm.MethodName)) ∈ tables_1 := mem1 76 rfl
theorem w77 : (Jvm.Cond.instanceMethod ({ cls := "MirrorResync", name := "bothActive", desc := "()Z" } : Jvm.MethodName)) ∈ tables_1 := mem1 77 rfl
theorem w78 : (Jvm.Cond.privateMethod ({ cls := "MirrorResync", name := "bothActive", desc := "()Z" } : Jvm.MethodName)) ∈ tables_1 := mem1 78 rfl
theorem w80 : (Jvm.Cond.methodLink "MirrorResync" (108 : Nat) ({ cls := "MirrorResync", name := "clearAged", desc := "()V" } : Jvm.MethodName)) ∈ tables_1 := mem1 80 rfl
theorem w81 : (Jvm.Cond.instanceMethod ({ cls := "MirrorResync", name := "clearAged", desc := "()V" } : Jvm.MethodName)) ∈ tables_1 := mem1 81 rfl
theorem w82 : (Jvm.Cond.privateMethod ({ cls := "MirrorResync", name := "clearAged", desc := "()V" } : Jvm.MethodName)) ∈ tables_1 := mem1 82 rfl
theorem w84 : (Jvm.Cond.methodLink "MirrorResyncL3" (21 : Nat) ({ cls := "MirrorResync", name := "crash", desc := "()I" } : Jvm.MethodName)) ∈ tables_1 := mem1 84 rfl
theorem w85 : (Jvm.Cond.declares ({ cls := "MirrorResync", name := "crash", desc := "()I" } : Jvm.MethodName)) ∈ tables_1 := mem1 85 rfl
theorem w86 : (Jvm.Cond.instanceMethod ({ cls := "MirrorResync", name := "crash", desc := "()I" } : Jvm.MethodName)) ∈ tables_1 := mem1 86 rfl
theorem w87 : (Jvm.Cond.selects "MirrorResync" ({ cls := "MirrorResync", name := "crash", desc := "()I" } : Jvm.MethodName) ({ cls := "MirrorResync", name := "crash", desc := "()I" } : Jvm.MethodName)) ∈ tables_1 := mem1 87 rfl
theorem w89 : (Jvm.Cond.methodLink "MirrorResyncL3" (24 : Nat) ({ cls := "MirrorResync", name := "pendingBlock", desc := "()I" } : Jvm.MethodName)) ∈ tables_1 := mem1 89 rfl
theorem w90 : (Jvm.Cond.declares ({ cls := "MirrorResync", name := "pendingBlock", desc := "()I" } : Jvm.MethodName)) ∈ tables_1 := mem1 90 rfl
theorem w91 : (Jvm.Cond.instanceMethod ({ cls := "MirrorResync", name := "pendingBlock", desc := "()I" } : Jvm.MethodName)) ∈ tables_1 := mem1 91 rfl
theorem w92 : (Jvm.Cond.selects "MirrorResync" ({ cls := "MirrorResync", name := "pendingBlock", desc := "()I" } : Jvm.MethodName) ({ cls := "MirrorResync", name := "pendingBlock", desc := "()I" } : Jvm.MethodName)) ∈ tables_1 := mem1 92 rfl
theorem w94 : (Jvm.Cond.methodLink "MirrorResyncL3" (27 : Nat) ({ cls := "MirrorResync", name := "isDown", desc := "()Z" } : Jvm.MethodName)) ∈ tables_1 := mem1 94 rfl
theorem w95 : (Jvm.Cond.declares ({ cls := "MirrorResync", name := "isDown", desc := "()Z" } : Jvm.MethodName)) ∈ tables_1 := mem1 95 rfl
theorem w96 : (Jvm.Cond.instanceMethod ({ cls := "MirrorResync", name := "isDown", desc := "()Z" } : Jvm.MethodName)) ∈ tables_1 := mem1 96 rfl
theorem w97 : (Jvm.Cond.selects "MirrorResync" ({ cls := "MirrorResync", name := "isDown", desc := "()Z" } : Jvm.MethodName) ({ cls := "MirrorResync", name := "isDown", desc := "()Z" } : Jvm.MethodName)) ∈ tables_1 := mem1 97 rfl
theorem w99 : (Jvm.Cond.methodLink "MirrorResyncL3" (31 : Nat) ({ cls := "MirrorResync", name := "read", desc := "(I)I" } : Jvm.MethodName)) ∈ tables_1 := mem1 99 rfl
theorem w100 : (Jvm.Cond.declares ({ cls := "MirrorResync", name := "read", desc := "(I)I" } : Jvm.MethodName)) ∈ tables_1 := mem1 100 rfl
theorem w101 : (Jvm.Cond.instanceMethod ({ cls := "MirrorResync", name := "read", desc := "(I)I" } : Jvm.MethodName)) ∈ tables_1 := mem1 101 rfl
theorem w102 : (Jvm.Cond.selects "MirrorResync" ({ cls := "MirrorResync", name := "read", desc := "(I)I" } : Jvm.MethodName) ({ cls := "MirrorResync", name := "read", desc := "(I)I" } : Jvm.MethodName)) ∈ tables_1 := mem1 102 rfl
theorem w104 : (Jvm.Cond.methodLink "MirrorResyncL3" (35 : Nat) ({ cls := "MirrorResync", name := "restart", desc := "()I" } : Jvm.MethodName)) ∈ tables_1 := mem1 104 rfl
theorem w105 : (Jvm.Cond.declares ({ cls := "MirrorResync", name := "restart", desc := "()I" } : Jvm.MethodName)) ∈ tables_1 := mem1 105 rfl
theorem w106 : (Jvm.Cond.instanceMethod ({ cls := "MirrorResync", name := "restart", desc := "()I" } : Jvm.MethodName)) ∈ tables_1 := mem1 106 rfl
theorem w107 : (Jvm.Cond.selects "MirrorResync" ({ cls := "MirrorResync", name := "restart", desc := "()I" } : Jvm.MethodName) ({ cls := "MirrorResync", name := "restart", desc := "()I" } : Jvm.MethodName)) ∈ tables_1 := mem1 107 rfl
theorem w109 : (Jvm.Cond.methodLink "MirrorResyncL3" (38 : Nat) ({ cls := "MirrorResync", name := "legState", desc := "(I)I" } : Jvm.MethodName)) ∈ tables_1 := mem1 109 rfl
theorem w110 : (Jvm.Cond.declares ({ cls := "MirrorResync", name := "legState", desc := "(I)I" } : Jvm.MethodName)) ∈ tables_1 := mem1 110 rfl
theorem w111 : (Jvm.Cond.instanceMethod ({ cls := "MirrorResync", name := "legState", desc := "(I)I" } : Jvm.MethodName)) ∈ tables_1 := mem1 111 rfl
theorem w112 : (Jvm.Cond.selects "MirrorResync" ({ cls := "MirrorResync", name := "legState", desc := "(I)I" } : Jvm.MethodName) ({ cls := "MirrorResync", name := "legState", desc := "(I)I" } : Jvm.MethodName)) ∈ tables_1 := mem1 112 rfl
theorem w114 : (Jvm.Cond.methodLink "MirrorResync" (77 : Nat) ({ cls := "MirrorResync", name := "validLeg", desc := "(I)Z" } : Jvm.MethodName)) ∈ tables_1 := mem1 114 rfl
theorem w115 : (Jvm.Cond.instanceMethod ({ cls := "MirrorResync", name := "validLeg", desc := "(I)Z" } : Jvm.MethodName)) ∈ tables_1 := mem1 115 rfl
theorem w116 : (Jvm.Cond.privateMethod ({ cls := "MirrorResync", name := "validLeg", desc := "(I)Z" } : Jvm.MethodName)) ∈ tables_1 := mem1 116 rfl
theorem w118 : (Jvm.Cond.methodLink "MirrorResyncL3" (41 : Nat) ({ cls := "MirrorResync", name := "peek", desc := "(II)I" } : Jvm.MethodName)) ∈ tables_1 := mem1 118 rfl
theorem w119 : (Jvm.Cond.declares ({ cls := "MirrorResync", name := "peek", desc := "(II)I" } : Jvm.MethodName)) ∈ tables_1 := mem1 119 rfl
theorem w120 : (Jvm.Cond.instanceMethod ({ cls := "MirrorResync", name := "peek", desc := "(II)I" } : Jvm.MethodName)) ∈ tables_1 := mem1 120 rfl
theorem w121 : (Jvm.Cond.selects "MirrorResync" ({ cls := "MirrorResync", name := "peek", desc := "(II)I" } : Jvm.MethodName) ({ cls := "MirrorResync", name := "peek", desc := "(II)I" } : Jvm.MethodName)) ∈ tables_1 := mem1 121 rfl
theorem w123 : (Jvm.Cond.methodLink "MirrorResyncL3" (44 : Nat) ({ cls := "MirrorResync", name := "ackedValue", desc := "(I)I" } : Jvm.MethodName)) ∈ tables_1 := mem1 123 rfl
theorem w124 : (Jvm.Cond.declares ({ cls := "MirrorResync", name := "ackedValue", desc := "(I)I" } : Jvm.MethodName)) ∈ tables_1 := mem1 124 rfl
theorem w125 : (Jvm.Cond.instanceMethod ({ cls := "MirrorResync", name := "ackedValue", desc := "(I)I" } : Jvm.MethodName)) ∈ tables_1 := mem1 125 rfl
theorem w126 : (Jvm.Cond.selects "MirrorResync" ({ cls := "MirrorResync", name := "ackedValue", desc := "(I)I" } : Jvm.MethodName) ({ cls := "MirrorResync", name := "ackedValue", desc := "(I)I" } : Jvm.MethodName)) ∈ tables_1 := mem1 126 rfl
theorem w128 : (Jvm.Cond.methodLink "MirrorResyncL3" (47 : Nat) ({ cls := "MirrorResync", name := "resync", desc := "()I" } : Jvm.MethodName)) ∈ tables_1 := mem1 128 rfl
theorem w129 : (Jvm.Cond.declares ({ cls := "MirrorResync", name := "resync", desc := "()I" } : Jvm.MethodName)) ∈ tables_1 := mem1 129 rfl
theorem w130 : (Jvm.Cond.instanceMethod ({ cls := "MirrorResync", name := "resync", desc := "()I" } : Jvm.MethodName)) ∈ tables_1 := mem1 130 rfl
theorem w131 : (Jvm.Cond.selects "MirrorResync" ({ cls := "MirrorResync", name := "resync", desc := "()I" } : Jvm.MethodName) ({ cls := "MirrorResync", name := "resync", desc := "()I" } : Jvm.MethodName)) ∈ tables_1 := mem1 131 rfl
theorem w133 : (Jvm.Cond.methodLink "MirrorResync" (90 : Nat) ({ cls := "MirrorResync", name := "staleLeg", desc := "()I" } : Jvm.MethodName)) ∈ tables_1 := mem1 133 rfl
theorem w134 : (Jvm.Cond.instanceMethod ({ cls := "MirrorResync", name := "staleLeg", desc := "()I" } : Jvm.MethodName)) ∈ tables_1 := mem1 134 rfl
theorem w135 : (Jvm.Cond.privateMethod ({ cls := "MirrorResync", name := "staleLeg", desc := "()I" } : Jvm.MethodName)) ∈ tables_1 := mem1 135 rfl
theorem w137 : (Jvm.Cond.methodLink "MirrorResync" (94 : Nat) ({ cls := "MirrorResync", name := "copyDirtyRegions", desc := "(II)V" } : Jvm.MethodName)) ∈ tables_1 := mem1 137 rfl
theorem w138 : (Jvm.Cond.instanceMethod ({ cls := "MirrorResync", name := "copyDirtyRegions", desc := "(II)V" } : Jvm.MethodName)) ∈ tables_1 := mem1 138 rfl
theorem w139 : (Jvm.Cond.privateMethod ({ cls := "MirrorResync", name := "copyDirtyRegions", desc := "(II)V" } : Jvm.MethodName)) ∈ tables_1 := mem1 139 rfl
theorem w141 : (Jvm.Cond.methodLink "MirrorResync" (98 : Nat) ({ cls := "MirrorResync", name := "clearBitmap", desc := "()V" } : Jvm.MethodName)) ∈ tables_1 := mem1 141 rfl
theorem w142 : (Jvm.Cond.instanceMethod ({ cls := "MirrorResync", name := "clearBitmap", desc := "()V" } : Jvm.MethodName)) ∈ tables_1 := mem1 142 rfl
theorem w143 : (Jvm.Cond.privateMethod ({ cls := "MirrorResync", name := "clearBitmap", desc := "()V" } : Jvm.MethodName)) ∈ tables_1 := mem1 143 rfl
theorem fS_0 : K.2.1[0]? = some ("n", "I") := rfl
theorem fS_1 : K.2.1[1]? = some ("regionSize", "I") := rfl
theorem fS_2 : K.2.1[2]? = some ("clearDelay", "I") := rfl
theorem fS_3 : K.2.1[3]? = some ("regions", "I") := rfl
theorem fS_4 : K.2.1[4]? = some ("down", "Z") := rfl
theorem fS_5 : K.2.1[5]? = some ("busy", "Z") := rfl
theorem fS_6 : K.2.1[6]? = some ("pBlock", "I") := rfl
theorem fS_7 : K.2.1[7]? = some ("pValue", "I") := rfl
theorem fS_8 : K.2.1[8]? = some ("pCursor", "I") := rfl
theorem fA_0 : K.2.2[0]? = some ("data", .int, (64 : Int32)) := rfl
theorem fA_1 : K.2.2[1]? = some ("acked", .int, (32 : Int32)) := rfl
theorem fA_2 : K.2.2[2]? = some ("state", .int, (2 : Int32)) := rfl
theorem fA_3 : K.2.2[3]? = some ("dirty", .boolean, (32 : Int32)) := rfl
theorem fA_4 : K.2.2[4]? = some ("pending", .boolean, (32 : Int32)) := rfl
theorem fA_5 : K.2.2[5]? = some ("age", .int, (32 : Int32)) := rfl
theorem cb_m5 : (Int8.ofInt (-5)).toInt32 = (-5 : Int32) := by decide
theorem cb_m4 : (Int8.ofInt (-4)).toInt32 = (-4 : Int32) := by decide
theorem cb_m3 : (Int8.ofInt (-3)).toInt32 = (-3 : Int32) := by decide
theorem cb_m2 : (Int8.ofInt (-2)).toInt32 = (-2 : Int32) := by decide
theorem cb_7 : (Int8.ofInt 7).toInt32 = (7 : Int32) := by decide
theorem cb_8 : (Int8.ofInt 8).toInt32 = (8 : Int32) := by decide
theorem cb_32 : (Int8.ofInt 32).toInt32 = (32 : Int32) := by decide
theorem cb_64 : (Int8.ofInt 64).toInt32 = (64 : Int32) := by decide
theorem ci_m1 : Int32.ofInt (-1) = (-1 : Int32) := by decide
theorem ci_0 : Int32.ofInt 0 = (0 : Int32) := by decide
theorem ci_1 : Int32.ofInt 1 = (1 : Int32) := by decide
theorem ci_2 : Int32.ofInt 2 = (2 : Int32) := by decide
theorem ci_3 : Int32.ofInt 3 = (3 : Int32) := by decide
theorem ci_4 : Int32.ofInt 4 = (4 : Int32) := by decide
def B2 : Bdy := ((⟨"MirrorResync", "clamp", "(III)I"⟩ : MethodName), prog_1_method_17_code, 3, (some .int), ({ frames := 0, cells := 0, slots := 0, locals := 0 } : Room))
theorem d2_0 : DAt B2 0 (.iload_n 0) 1 1 := ⟨by decide +kernel, rfl⟩
theorem d2_1 : DAt B2 1 (.iload_n 1) 1 2 := ⟨by decide +kernel, rfl⟩
theorem d2_2 : DAt B2 2 (.if_icmp .ge 5) 3 5 := ⟨by decide +kernel, rfl⟩
theorem d2_5 : DAt B2 5 (.iload_n 1) 1 6 := ⟨by decide +kernel, rfl⟩
theorem d2_6 : DAt B2 6 (.ireturn) 1 7 := ⟨by decide +kernel, rfl⟩
theorem d2_7 : DAt B2 7 (.iload_n 0) 1 8 := ⟨by decide +kernel, rfl⟩
theorem d2_8 : DAt B2 8 (.iload_n 2) 1 9 := ⟨by decide +kernel, rfl⟩
theorem d2_9 : DAt B2 9 (.if_icmp .le 5) 3 12 := ⟨by decide +kernel, rfl⟩
theorem d2_12 : DAt B2 12 (.iload_n 2) 1 13 := ⟨by decide +kernel, rfl⟩
theorem d2_13 : DAt B2 13 (.ireturn) 1 14 := ⟨by decide +kernel, rfl⟩
theorem d2_14 : DAt B2 14 (.iload_n 0) 1 15 := ⟨by decide +kernel, rfl⟩
theorem d2_15 : DAt B2 15 (.ireturn) 1 16 := ⟨by decide +kernel, rfl⟩
def B1 : Bdy := ((⟨"MirrorResync", "<init>", "(III)V"⟩ : MethodName), prog_1_method_1_code, 4, none, ({ frames := 1, cells := 6, slots := 194, locals := 15 } : Room))
theorem d1_0 : DAt B1 0 (.aload_n 0) 1 1 := ⟨by decide +kernel, rfl⟩
theorem d1_1 : DAt B1 1 (.invokespecial 1) 3 4 := ⟨by decide +kernel, rfl⟩
theorem d1_4 : DAt B1 4 (.aload_n 0) 1 5 := ⟨by decide +kernel, rfl⟩
theorem d1_5 : DAt B1 5 (.bipush 64) 2 7 := ⟨by decide +kernel, rfl⟩
theorem d1_7 : DAt B1 7 (.newarray .int) 2 9 := ⟨by decide +kernel, rfl⟩
theorem d1_9 : DAt B1 9 (.putfield 7) 3 12 := ⟨by decide +kernel, rfl⟩
theorem d1_12 : DAt B1 12 (.aload_n 0) 1 13 := ⟨by decide +kernel, rfl⟩
theorem d1_13 : DAt B1 13 (.bipush 32) 2 15 := ⟨by decide +kernel, rfl⟩
theorem d1_15 : DAt B1 15 (.newarray .int) 2 17 := ⟨by decide +kernel, rfl⟩
theorem d1_17 : DAt B1 17 (.putfield 13) 3 20 := ⟨by decide +kernel, rfl⟩
theorem d1_20 : DAt B1 20 (.aload_n 0) 1 21 := ⟨by decide +kernel, rfl⟩
theorem d1_21 : DAt B1 21 (.iconst 2) 1 22 := ⟨by decide +kernel, rfl⟩
theorem d1_22 : DAt B1 22 (.newarray .int) 2 24 := ⟨by decide +kernel, rfl⟩
theorem d1_24 : DAt B1 24 (.putfield 16) 3 27 := ⟨by decide +kernel, rfl⟩
theorem d1_27 : DAt B1 27 (.aload_n 0) 1 28 := ⟨by decide +kernel, rfl⟩
theorem d1_28 : DAt B1 28 (.bipush 32) 2 30 := ⟨by decide +kernel, rfl⟩
theorem d1_30 : DAt B1 30 (.newarray .boolean) 2 32 := ⟨by decide +kernel, rfl⟩
theorem d1_32 : DAt B1 32 (.putfield 19) 3 35 := ⟨by decide +kernel, rfl⟩
theorem d1_35 : DAt B1 35 (.aload_n 0) 1 36 := ⟨by decide +kernel, rfl⟩
theorem d1_36 : DAt B1 36 (.bipush 32) 2 38 := ⟨by decide +kernel, rfl⟩
theorem d1_38 : DAt B1 38 (.newarray .boolean) 2 40 := ⟨by decide +kernel, rfl⟩
theorem d1_40 : DAt B1 40 (.putfield 23) 3 43 := ⟨by decide +kernel, rfl⟩
theorem d1_43 : DAt B1 43 (.aload_n 0) 1 44 := ⟨by decide +kernel, rfl⟩
theorem d1_44 : DAt B1 44 (.bipush 32) 2 46 := ⟨by decide +kernel, rfl⟩
theorem d1_46 : DAt B1 46 (.newarray .int) 2 48 := ⟨by decide +kernel, rfl⟩
theorem d1_48 : DAt B1 48 (.putfield 26) 3 51 := ⟨by decide +kernel, rfl⟩
theorem d1_51 : DAt B1 51 (.aload_n 0) 1 52 := ⟨by decide +kernel, rfl⟩
theorem d1_52 : DAt B1 52 (.iload_n 1) 1 53 := ⟨by decide +kernel, rfl⟩
theorem d1_53 : DAt B1 53 (.bipush 8) 2 55 := ⟨by decide +kernel, rfl⟩
theorem d1_55 : DAt B1 55 (.bipush 32) 2 57 := ⟨by decide +kernel, rfl⟩
theorem d1_57 : DAt B1 57 (.invokestatic 29) 3 60 := ⟨by decide +kernel, rfl⟩
theorem d1_60 : DAt B1 60 (.putfield 33) 3 63 := ⟨by decide +kernel, rfl⟩
theorem d1_63 : DAt B1 63 (.aload_n 0) 1 64 := ⟨by decide +kernel, rfl⟩
theorem d1_64 : DAt B1 64 (.iload_n 2) 1 65 := ⟨by decide +kernel, rfl⟩
theorem d1_65 : DAt B1 65 (.iconst 1) 1 66 := ⟨by decide +kernel, rfl⟩
theorem d1_66 : DAt B1 66 (.iconst 4) 1 67 := ⟨by decide +kernel, rfl⟩
theorem d1_67 : DAt B1 67 (.invokestatic 29) 3 70 := ⟨by decide +kernel, rfl⟩
theorem d1_70 : DAt B1 70 (.putfield 37) 3 73 := ⟨by decide +kernel, rfl⟩
theorem d1_73 : DAt B1 73 (.aload_n 0) 1 74 := ⟨by decide +kernel, rfl⟩
theorem d1_74 : DAt B1 74 (.iload_n 3) 1 75 := ⟨by decide +kernel, rfl⟩
theorem d1_75 : DAt B1 75 (.iconst 0) 1 76 := ⟨by decide +kernel, rfl⟩
theorem d1_76 : DAt B1 76 (.iconst 4) 1 77 := ⟨by decide +kernel, rfl⟩
theorem d1_77 : DAt B1 77 (.invokestatic 29) 3 80 := ⟨by decide +kernel, rfl⟩
theorem d1_80 : DAt B1 80 (.putfield 40) 3 83 := ⟨by decide +kernel, rfl⟩
theorem d1_83 : DAt B1 83 (.aload_n 0) 1 84 := ⟨by decide +kernel, rfl⟩
theorem d1_84 : DAt B1 84 (.aload_n 0) 1 85 := ⟨by decide +kernel, rfl⟩
theorem d1_85 : DAt B1 85 (.getfield 33) 3 88 := ⟨by decide +kernel, rfl⟩
theorem d1_88 : DAt B1 88 (.aload_n 0) 1 89 := ⟨by decide +kernel, rfl⟩
theorem d1_89 : DAt B1 89 (.getfield 37) 3 92 := ⟨by decide +kernel, rfl⟩
theorem d1_92 : DAt B1 92 (.iadd) 1 93 := ⟨by decide +kernel, rfl⟩
theorem d1_93 : DAt B1 93 (.iconst 1) 1 94 := ⟨by decide +kernel, rfl⟩
theorem d1_94 : DAt B1 94 (.isub) 1 95 := ⟨by decide +kernel, rfl⟩
theorem d1_95 : DAt B1 95 (.aload_n 0) 1 96 := ⟨by decide +kernel, rfl⟩
theorem d1_96 : DAt B1 96 (.getfield 37) 3 99 := ⟨by decide +kernel, rfl⟩
theorem d1_99 : DAt B1 99 (.idiv) 1 100 := ⟨by decide +kernel, rfl⟩
theorem d1_100 : DAt B1 100 (.putfield 43) 3 103 := ⟨by decide +kernel, rfl⟩
theorem d1_103 : DAt B1 103 (.aload_n 0) 1 104 := ⟨by decide +kernel, rfl⟩
theorem d1_104 : DAt B1 104 (.getfield 16) 3 107 := ⟨by decide +kernel, rfl⟩
theorem d1_107 : DAt B1 107 (.iconst 0) 1 108 := ⟨by decide +kernel, rfl⟩
theorem d1_108 : DAt B1 108 (.iconst 0) 1 109 := ⟨by decide +kernel, rfl⟩
theorem d1_109 : DAt B1 109 (.iastore) 1 110 := ⟨by decide +kernel, rfl⟩
theorem d1_110 : DAt B1 110 (.aload_n 0) 1 111 := ⟨by decide +kernel, rfl⟩
theorem d1_111 : DAt B1 111 (.getfield 16) 3 114 := ⟨by decide +kernel, rfl⟩
theorem d1_114 : DAt B1 114 (.iconst 1) 1 115 := ⟨by decide +kernel, rfl⟩
theorem d1_115 : DAt B1 115 (.iconst 0) 1 116 := ⟨by decide +kernel, rfl⟩
theorem d1_116 : DAt B1 116 (.iastore) 1 117 := ⟨by decide +kernel, rfl⟩
theorem d1_117 : DAt B1 117 (.aload_n 0) 1 118 := ⟨by decide +kernel, rfl⟩
theorem d1_118 : DAt B1 118 (.iconst 0) 1 119 := ⟨by decide +kernel, rfl⟩
theorem d1_119 : DAt B1 119 (.putfield 46) 3 122 := ⟨by decide +kernel, rfl⟩
theorem d1_122 : DAt B1 122 (.aload_n 0) 1 123 := ⟨by decide +kernel, rfl⟩
theorem d1_123 : DAt B1 123 (.iconst 0) 1 124 := ⟨by decide +kernel, rfl⟩
theorem d1_124 : DAt B1 124 (.putfield 50) 3 127 := ⟨by decide +kernel, rfl⟩
theorem d1_127 : DAt B1 127 (.aload_n 0) 1 128 := ⟨by decide +kernel, rfl⟩
theorem d1_128 : DAt B1 128 (.iconst (-1)) 1 129 := ⟨by decide +kernel, rfl⟩
theorem d1_129 : DAt B1 129 (.putfield 53) 3 132 := ⟨by decide +kernel, rfl⟩
theorem d1_132 : DAt B1 132 (.aload_n 0) 1 133 := ⟨by decide +kernel, rfl⟩
theorem d1_133 : DAt B1 133 (.iconst 0) 1 134 := ⟨by decide +kernel, rfl⟩
theorem d1_134 : DAt B1 134 (.putfield 56) 3 137 := ⟨by decide +kernel, rfl⟩
theorem d1_137 : DAt B1 137 (.aload_n 0) 1 138 := ⟨by decide +kernel, rfl⟩
theorem d1_138 : DAt B1 138 (.iconst (-1)) 1 139 := ⟨by decide +kernel, rfl⟩
theorem d1_139 : DAt B1 139 (.putfield 59) 3 142 := ⟨by decide +kernel, rfl⟩
theorem d1_142 : DAt B1 142 (.return_) 1 143 := ⟨by decide +kernel, rfl⟩
def B4 : Bdy := ((⟨"MirrorResync", "validBlock", "(I)Z"⟩ : MethodName), prog_1_method_18_code, 2, (some .boolean), ({ frames := 0, cells := 0, slots := 0, locals := 0 } : Room))
theorem d4_0 : DAt B4 0 (.iload_n 1) 1 1 := ⟨by decide +kernel, rfl⟩
theorem d4_1 : DAt B4 1 (.ifCond .lt 15) 3 4 := ⟨by decide +kernel, rfl⟩
theorem d4_4 : DAt B4 4 (.iload_n 1) 1 5 := ⟨by decide +kernel, rfl⟩
theorem d4_5 : DAt B4 5 (.aload_n 0) 1 6 := ⟨by decide +kernel, rfl⟩
theorem d4_6 : DAt B4 6 (.getfield 33) 3 9 := ⟨by decide +kernel, rfl⟩
theorem d4_9 : DAt B4 9 (.if_icmp .ge 7) 3 12 := ⟨by decide +kernel, rfl⟩
theorem d4_12 : DAt B4 12 (.iconst 1) 1 13 := ⟨by decide +kernel, rfl⟩
theorem d4_13 : DAt B4 13 (.goto 4) 3 16 := ⟨by decide +kernel, rfl⟩
theorem d4_16 : DAt B4 16 (.iconst 0) 1 17 := ⟨by decide +kernel, rfl⟩
theorem d4_17 : DAt B4 17 (.ireturn) 1 18 := ⟨by decide +kernel, rfl⟩
def B5 : Bdy := ((⟨"MirrorResync", "markDirty", "(I)V"⟩ : MethodName), prog_1_method_27_code, 2, none, ({ frames := 0, cells := 0, slots := 0, locals := 0 } : Room))
theorem d5_0 : DAt B5 0 (.aload_n 0) 1 1 := ⟨by decide +kernel, rfl⟩
theorem d5_1 : DAt B5 1 (.getfield 19) 3 4 := ⟨by decide +kernel, rfl⟩
theorem d5_4 : DAt B5 4 (.iload_n 1) 1 5 := ⟨by decide +kernel, rfl⟩
theorem d5_5 : DAt B5 5 (.iconst 1) 1 6 := ⟨by decide +kernel, rfl⟩
theorem d5_6 : DAt B5 6 (.bastore) 1 7 := ⟨by decide +kernel, rfl⟩
theorem d5_7 : DAt B5 7 (.aload_n 0) 1 8 := ⟨by decide +kernel, rfl⟩
theorem d5_8 : DAt B5 8 (.getfield 23) 3 11 := ⟨by decide +kernel, rfl⟩
theorem d5_11 : DAt B5 11 (.iload_n 1) 1 12 := ⟨by decide +kernel, rfl⟩
theorem d5_12 : DAt B5 12 (.iconst 0) 1 13 := ⟨by decide +kernel, rfl⟩
theorem d5_13 : DAt B5 13 (.bastore) 1 14 := ⟨by decide +kernel, rfl⟩
theorem d5_14 : DAt B5 14 (.aload_n 0) 1 15 := ⟨by decide +kernel, rfl⟩
theorem d5_15 : DAt B5 15 (.getfield 26) 3 18 := ⟨by decide +kernel, rfl⟩
theorem d5_18 : DAt B5 18 (.iload_n 1) 1 19 := ⟨by decide +kernel, rfl⟩
theorem d5_19 : DAt B5 19 (.iconst 0) 1 20 := ⟨by decide +kernel, rfl⟩
theorem d5_20 : DAt B5 20 (.iastore) 1 21 := ⟨by decide +kernel, rfl⟩
theorem d5_21 : DAt B5 21 (.return_) 1 22 := ⟨by decide +kernel, rfl⟩
def B3 : Bdy := ((⟨"MirrorResync", "write", "(II)I"⟩ : MethodName), prog_1_method_2_code, 3, (some .int), ({ frames := 1, cells := 0, slots := 0, locals := 13 } : Room))
theorem d3_0 : DAt B3 0 (.aload_n 0) 1 1 := ⟨by decide +kernel, rfl⟩
theorem d3_1 : DAt B3 1 (.getfield 46) 3 4 := ⟨by decide +kernel, rfl⟩
theorem d3_4 : DAt B3 4 (.ifCond .eq 5) 3 7 := ⟨by decide +kernel, rfl⟩
theorem d3_7 : DAt B3 7 (.iconst (-1)) 1 8 := ⟨by decide +kernel, rfl⟩
theorem d3_8 : DAt B3 8 (.ireturn) 1 9 := ⟨by decide +kernel, rfl⟩
theorem d3_9 : DAt B3 9 (.aload_n 0) 1 10 := ⟨by decide +kernel, rfl⟩
theorem d3_10 : DAt B3 10 (.iload_n 1) 1 11 := ⟨by decide +kernel, rfl⟩
theorem d3_11 : DAt B3 11 (.invokevirtual 62) 3 14 := ⟨by decide +kernel, rfl⟩
theorem d3_14 : DAt B3 14 (.ifCond .eq 13) 3 17 := ⟨by decide +kernel, rfl⟩
theorem d3_17 : DAt B3 17 (.iload_n 2) 1 18 := ⟨by decide +kernel, rfl⟩
theorem d3_18 : DAt B3 18 (.ifCond .lt 9) 3 21 := ⟨by decide +kernel, rfl⟩
theorem d3_21 : DAt B3 21 (.iload_n 2) 1 22 := ⟨by decide +kernel, rfl⟩
theorem d3_22 : DAt B3 22 (.ldc 66) 2 24 := ⟨by decide +kernel, rfl⟩
theorem d3_24 : DAt B3 24 (.if_icmp .le 6) 3 27 := ⟨by decide +kernel, rfl⟩
theorem d3_27 : DAt B3 27 (.bipush (-2)) 2 29 := ⟨by decide +kernel, rfl⟩
theorem d3_29 : DAt B3 29 (.ireturn) 1 30 := ⟨by decide +kernel, rfl⟩
theorem d3_30 : DAt B3 30 (.aload_n 0) 1 31 := ⟨by decide +kernel, rfl⟩
theorem d3_31 : DAt B3 31 (.getfield 50) 3 34 := ⟨by decide +kernel, rfl⟩
theorem d3_34 : DAt B3 34 (.ifCond .eq 6) 3 37 := ⟨by decide +kernel, rfl⟩
theorem d3_37 : DAt B3 37 (.bipush (-3)) 2 39 := ⟨by decide +kernel, rfl⟩
theorem d3_39 : DAt B3 39 (.ireturn) 1 40 := ⟨by decide +kernel, rfl⟩
theorem d3_40 : DAt B3 40 (.aload_n 0) 1 41 := ⟨by decide +kernel, rfl⟩
theorem d3_41 : DAt B3 41 (.iload_n 1) 1 42 := ⟨by decide +kernel, rfl⟩
theorem d3_42 : DAt B3 42 (.aload_n 0) 1 43 := ⟨by decide +kernel, rfl⟩
theorem d3_43 : DAt B3 43 (.getfield 37) 3 46 := ⟨by decide +kernel, rfl⟩
theorem d3_46 : DAt B3 46 (.idiv) 1 47 := ⟨by decide +kernel, rfl⟩
theorem d3_47 : DAt B3 47 (.invokevirtual 67) 3 50 := ⟨by decide +kernel, rfl⟩
theorem d3_50 : DAt B3 50 (.aload_n 0) 1 51 := ⟨by decide +kernel, rfl⟩
theorem d3_51 : DAt B3 51 (.iconst 1) 1 52 := ⟨by decide +kernel, rfl⟩
theorem d3_52 : DAt B3 52 (.putfield 50) 3 55 := ⟨by decide +kernel, rfl⟩
theorem d3_55 : DAt B3 55 (.aload_n 0) 1 56 := ⟨by decide +kernel, rfl⟩
theorem d3_56 : DAt B3 56 (.iload_n 1) 1 57 := ⟨by decide +kernel, rfl⟩
theorem d3_57 : DAt B3 57 (.putfield 53) 3 60 := ⟨by decide +kernel, rfl⟩
theorem d3_60 : DAt B3 60 (.aload_n 0) 1 61 := ⟨by decide +kernel, rfl⟩
theorem d3_61 : DAt B3 61 (.iload_n 2) 1 62 := ⟨by decide +kernel, rfl⟩
theorem d3_62 : DAt B3 62 (.putfield 56) 3 65 := ⟨by decide +kernel, rfl⟩
theorem d3_65 : DAt B3 65 (.aload_n 0) 1 66 := ⟨by decide +kernel, rfl⟩
theorem d3_66 : DAt B3 66 (.iconst 0) 1 67 := ⟨by decide +kernel, rfl⟩
theorem d3_67 : DAt B3 67 (.putfield 59) 3 70 := ⟨by decide +kernel, rfl⟩
theorem d3_70 : DAt B3 70 (.iconst 0) 1 71 := ⟨by decide +kernel, rfl⟩
theorem d3_71 : DAt B3 71 (.ireturn) 1 72 := ⟨by decide +kernel, rfl⟩
def B8 : Bdy := ((⟨"MirrorResync", "clearPending", "()V"⟩ : MethodName), prog_1_method_23_code, 1, none, ({ frames := 0, cells := 0, slots := 0, locals := 0 } : Room))
theorem d8_0 : DAt B8 0 (.aload_n 0) 1 1 := ⟨by decide +kernel, rfl⟩
theorem d8_1 : DAt B8 1 (.iconst 0) 1 2 := ⟨by decide +kernel, rfl⟩
theorem d8_2 : DAt B8 2 (.putfield 50) 3 5 := ⟨by decide +kernel, rfl⟩
theorem d8_5 : DAt B8 5 (.aload_n 0) 1 6 := ⟨by decide +kernel, rfl⟩
theorem d8_6 : DAt B8 6 (.iconst (-1)) 1 7 := ⟨by decide +kernel, rfl⟩
theorem d8_7 : DAt B8 7 (.putfield 53) 3 10 := ⟨by decide +kernel, rfl⟩
theorem d8_10 : DAt B8 10 (.aload_n 0) 1 11 := ⟨by decide +kernel, rfl⟩
theorem d8_11 : DAt B8 11 (.iconst 0) 1 12 := ⟨by decide +kernel, rfl⟩
theorem d8_12 : DAt B8 12 (.putfield 56) 3 15 := ⟨by decide +kernel, rfl⟩
theorem d8_15 : DAt B8 15 (.aload_n 0) 1 16 := ⟨by decide +kernel, rfl⟩
theorem d8_16 : DAt B8 16 (.iconst (-1)) 1 17 := ⟨by decide +kernel, rfl⟩
theorem d8_17 : DAt B8 17 (.putfield 59) 3 20 := ⟨by decide +kernel, rfl⟩
theorem d8_20 : DAt B8 20 (.return_) 1 21 := ⟨by decide +kernel, rfl⟩
def B9 : Bdy := ((⟨"MirrorResync", "ageOthers", "(I)V"⟩ : MethodName), prog_1_method_25_code, 3, none, ({ frames := 0, cells := 0, slots := 0, locals := 0 } : Room))
theorem d9_0 : DAt B9 0 (.iconst 0) 1 1 := ⟨by decide +kernel, rfl⟩
theorem d9_1 : DAt B9 1 (.istore_n 2) 1 2 := ⟨by decide +kernel, rfl⟩
theorem d9_2 : DAt B9 2 (.iload_n 2) 1 3 := ⟨by decide +kernel, rfl⟩
theorem d9_3 : DAt B9 3 (.aload_n 0) 1 4 := ⟨by decide +kernel, rfl⟩
theorem d9_4 : DAt B9 4 (.getfield 43) 3 7 := ⟨by decide +kernel, rfl⟩
theorem d9_7 : DAt B9 7 (.if_icmp .ge 46) 3 10 := ⟨by decide +kernel, rfl⟩
theorem d9_10 : DAt B9 10 (.iload_n 2) 1 11 := ⟨by decide +kernel, rfl⟩
theorem d9_11 : DAt B9 11 (.iload_n 1) 1 12 := ⟨by decide +kernel, rfl⟩
theorem d9_12 : DAt B9 12 (.if_icmp .eq 35) 3 15 := ⟨by decide +kernel, rfl⟩
theorem d9_15 : DAt B9 15 (.aload_n 0) 1 16 := ⟨by decide +kernel, rfl⟩
theorem d9_16 : DAt B9 16 (.getfield 23) 3 19 := ⟨by decide +kernel, rfl⟩
theorem d9_19 : DAt B9 19 (.iload_n 2) 1 20 := ⟨by decide +kernel, rfl⟩
theorem d9_20 : DAt B9 20 (.baload) 1 21 := ⟨by decide +kernel, rfl⟩
theorem d9_21 : DAt B9 21 (.ifCond .eq 26) 3 24 := ⟨by decide +kernel, rfl⟩
theorem d9_24 : DAt B9 24 (.aload_n 0) 1 25 := ⟨by decide +kernel, rfl⟩
theorem d9_25 : DAt B9 25 (.getfield 26) 3 28 := ⟨by decide +kernel, rfl⟩
theorem d9_28 : DAt B9 28 (.iload_n 2) 1 29 := ⟨by decide +kernel, rfl⟩
theorem d9_29 : DAt B9 29 (.iaload) 1 30 := ⟨by decide +kernel, rfl⟩
theorem d9_30 : DAt B9 30 (.aload_n 0) 1 31 := ⟨by decide +kernel, rfl⟩
theorem d9_31 : DAt B9 31 (.getfield 40) 3 34 := ⟨by decide +kernel, rfl⟩
theorem d9_34 : DAt B9 34 (.if_icmp .ge 13) 3 37 := ⟨by decide +kernel, rfl⟩
theorem d9_37 : DAt B9 37 (.aload_n 0) 1 38 := ⟨by decide +kernel, rfl⟩
theorem d9_38 : DAt B9 38 (.getfield 26) 3 41 := ⟨by decide +kernel, rfl⟩
theorem d9_41 : DAt B9 41 (.iload_n 2) 1 42 := ⟨by decide +kernel, rfl⟩
theorem d9_42 : DAt B9 42 (.dup2) 1 43 := ⟨by decide +kernel, rfl⟩
theorem d9_43 : DAt B9 43 (.iaload) 1 44 := ⟨by decide +kernel, rfl⟩
theorem d9_44 : DAt B9 44 (.iconst 1) 1 45 := ⟨by decide +kernel, rfl⟩
theorem d9_45 : DAt B9 45 (.iadd) 1 46 := ⟨by decide +kernel, rfl⟩
theorem d9_46 : DAt B9 46 (.iastore) 1 47 := ⟨by decide +kernel, rfl⟩
theorem d9_47 : DAt B9 47 (.iinc 2 1) 3 50 := ⟨by decide +kernel, rfl⟩
theorem d9_50 : DAt B9 50 (.goto (-48)) 3 53 := ⟨by decide +kernel, rfl⟩
theorem d9_53 : DAt B9 53 (.return_) 1 54 := ⟨by decide +kernel, rfl⟩
def B10 : Bdy := ((⟨"MirrorResync", "bothActive", "()Z"⟩ : MethodName), prog_1_method_20_code, 1, (some .boolean), ({ frames := 0, cells := 0, slots := 0, locals := 0 } : Room))
theorem d10_0 : DAt B10 0 (.aload_n 0) 1 1 := ⟨by decide +kernel, rfl⟩
theorem d10_1 : DAt B10 1 (.getfield 16) 3 4 := ⟨by decide +kernel, rfl⟩
theorem d10_4 : DAt B10 4 (.iconst 0) 1 5 := ⟨by decide +kernel, rfl⟩
theorem d10_5 : DAt B10 5 (.iaload) 1 6 := ⟨by decide +kernel, rfl⟩
theorem d10_6 : DAt B10 6 (.ifCond .ne 16) 3 9 := ⟨by decide +kernel, rfl⟩
theorem d10_9 : DAt B10 9 (.aload_n 0) 1 10 := ⟨by decide +kernel, rfl⟩
theorem d10_10 : DAt B10 10 (.getfield 16) 3 13 := ⟨by decide +kernel, rfl⟩
theorem d10_13 : DAt B10 13 (.iconst 1) 1 14 := ⟨by decide +kernel, rfl⟩
theorem d10_14 : DAt B10 14 (.iaload) 1 15 := ⟨by decide +kernel, rfl⟩
theorem d10_15 : DAt B10 15 (.ifCond .ne 7) 3 18 := ⟨by decide +kernel, rfl⟩
theorem d10_18 : DAt B10 18 (.iconst 1) 1 19 := ⟨by decide +kernel, rfl⟩
theorem d10_19 : DAt B10 19 (.goto 4) 3 22 := ⟨by decide +kernel, rfl⟩
theorem d10_22 : DAt B10 22 (.iconst 0) 1 23 := ⟨by decide +kernel, rfl⟩
theorem d10_23 : DAt B10 23 (.ireturn) 1 24 := ⟨by decide +kernel, rfl⟩
def B11 : Bdy := ((⟨"MirrorResync", "clearAged", "()V"⟩ : MethodName), prog_1_method_26_code, 2, none, ({ frames := 0, cells := 0, slots := 0, locals := 0 } : Room))
theorem d11_0 : DAt B11 0 (.iconst 0) 1 1 := ⟨by decide +kernel, rfl⟩
theorem d11_1 : DAt B11 1 (.istore_n 1) 1 2 := ⟨by decide +kernel, rfl⟩
theorem d11_2 : DAt B11 2 (.iload_n 1) 1 3 := ⟨by decide +kernel, rfl⟩
theorem d11_3 : DAt B11 3 (.aload_n 0) 1 4 := ⟨by decide +kernel, rfl⟩
theorem d11_4 : DAt B11 4 (.getfield 43) 3 7 := ⟨by decide +kernel, rfl⟩
theorem d11_7 : DAt B11 7 (.if_icmp .ge 61) 3 10 := ⟨by decide +kernel, rfl⟩
theorem d11_10 : DAt B11 10 (.aload_n 0) 1 11 := ⟨by decide +kernel, rfl⟩
theorem d11_11 : DAt B11 11 (.getfield 19) 3 14 := ⟨by decide +kernel, rfl⟩
theorem d11_14 : DAt B11 14 (.iload_n 1) 1 15 := ⟨by decide +kernel, rfl⟩
theorem d11_15 : DAt B11 15 (.baload) 1 16 := ⟨by decide +kernel, rfl⟩
theorem d11_16 : DAt B11 16 (.ifCond .eq 46) 3 19 := ⟨by decide +kernel, rfl⟩
theorem d11_19 : DAt B11 19 (.aload_n 0) 1 20 := ⟨by decide +kernel, rfl⟩
theorem d11_20 : DAt B11 20 (.getfield 23) 3 23 := ⟨by decide +kernel, rfl⟩
theorem d11_23 : DAt B11 23 (.iload_n 1) 1 24 := ⟨by decide +kernel, rfl⟩
theorem d11_24 : DAt B11 24 (.baload) 1 25 := ⟨by decide +kernel, rfl⟩
theorem d11_25 : DAt B11 25 (.ifCond .eq 37) 3 28 := ⟨by decide +kernel, rfl⟩
theorem d11_28 : DAt B11 28 (.aload_n 0) 1 29 := ⟨by decide +kernel, rfl⟩
theorem d11_29 : DAt B11 29 (.getfield 26) 3 32 := ⟨by decide +kernel, rfl⟩
theorem d11_32 : DAt B11 32 (.iload_n 1) 1 33 := ⟨by decide +kernel, rfl⟩
theorem d11_33 : DAt B11 33 (.iaload) 1 34 := ⟨by decide +kernel, rfl⟩
theorem d11_34 : DAt B11 34 (.aload_n 0) 1 35 := ⟨by decide +kernel, rfl⟩
theorem d11_35 : DAt B11 35 (.getfield 40) 3 38 := ⟨by decide +kernel, rfl⟩
theorem d11_38 : DAt B11 38 (.if_icmp .lt 24) 3 41 := ⟨by decide +kernel, rfl⟩
theorem d11_41 : DAt B11 41 (.aload_n 0) 1 42 := ⟨by decide +kernel, rfl⟩
theorem d11_42 : DAt B11 42 (.getfield 19) 3 45 := ⟨by decide +kernel, rfl⟩
theorem d11_45 : DAt B11 45 (.iload_n 1) 1 46 := ⟨by decide +kernel, rfl⟩
theorem d11_46 : DAt B11 46 (.iconst 0) 1 47 := ⟨by decide +kernel, rfl⟩
theorem d11_47 : DAt B11 47 (.bastore) 1 48 := ⟨by decide +kernel, rfl⟩
theorem d11_48 : DAt B11 48 (.aload_n 0) 1 49 := ⟨by decide +kernel, rfl⟩
theorem d11_49 : DAt B11 49 (.getfield 23) 3 52 := ⟨by decide +kernel, rfl⟩
theorem d11_52 : DAt B11 52 (.iload_n 1) 1 53 := ⟨by decide +kernel, rfl⟩
theorem d11_53 : DAt B11 53 (.iconst 0) 1 54 := ⟨by decide +kernel, rfl⟩
theorem d11_54 : DAt B11 54 (.bastore) 1 55 := ⟨by decide +kernel, rfl⟩
theorem d11_55 : DAt B11 55 (.aload_n 0) 1 56 := ⟨by decide +kernel, rfl⟩
theorem d11_56 : DAt B11 56 (.getfield 26) 3 59 := ⟨by decide +kernel, rfl⟩
theorem d11_59 : DAt B11 59 (.iload_n 1) 1 60 := ⟨by decide +kernel, rfl⟩
theorem d11_60 : DAt B11 60 (.iconst 0) 1 61 := ⟨by decide +kernel, rfl⟩
theorem d11_61 : DAt B11 61 (.iastore) 1 62 := ⟨by decide +kernel, rfl⟩
theorem d11_62 : DAt B11 62 (.iinc 1 1) 3 65 := ⟨by decide +kernel, rfl⟩
theorem d11_65 : DAt B11 65 (.goto (-63)) 3 68 := ⟨by decide +kernel, rfl⟩
theorem d11_68 : DAt B11 68 (.return_) 1 69 := ⟨by decide +kernel, rfl⟩
def B7 : Bdy := ((⟨"MirrorResync", "acknowledge", "()V"⟩ : MethodName), prog_1_method_24_code, 3, none, ({ frames := 1, cells := 0, slots := 0, locals := 14 } : Room))
theorem d7_0 : DAt B7 0 (.aload_n 0) 1 1 := ⟨by decide +kernel, rfl⟩
theorem d7_1 : DAt B7 1 (.getfield 53) 3 4 := ⟨by decide +kernel, rfl⟩
theorem d7_4 : DAt B7 4 (.istore_n 1) 1 5 := ⟨by decide +kernel, rfl⟩
theorem d7_5 : DAt B7 5 (.aload_n 0) 1 6 := ⟨by decide +kernel, rfl⟩
theorem d7_6 : DAt B7 6 (.getfield 13) 3 9 := ⟨by decide +kernel, rfl⟩
theorem d7_9 : DAt B7 9 (.iload_n 1) 1 10 := ⟨by decide +kernel, rfl⟩
theorem d7_10 : DAt B7 10 (.aload_n 0) 1 11 := ⟨by decide +kernel, rfl⟩
theorem d7_11 : DAt B7 11 (.getfield 56) 3 14 := ⟨by decide +kernel, rfl⟩
theorem d7_14 : DAt B7 14 (.iastore) 1 15 := ⟨by decide +kernel, rfl⟩
theorem d7_15 : DAt B7 15 (.aload_n 0) 1 16 := ⟨by decide +kernel, rfl⟩
theorem d7_16 : DAt B7 16 (.invokevirtual 74) 3 19 := ⟨by decide +kernel, rfl⟩
theorem d7_19 : DAt B7 19 (.iload_n 1) 1 20 := ⟨by decide +kernel, rfl⟩
theorem d7_20 : DAt B7 20 (.aload_n 0) 1 21 := ⟨by decide +kernel, rfl⟩
theorem d7_21 : DAt B7 21 (.getfield 37) 3 24 := ⟨by decide +kernel, rfl⟩
theorem d7_24 : DAt B7 24 (.idiv) 1 25 := ⟨by decide +kernel, rfl⟩
theorem d7_25 : DAt B7 25 (.istore_n 2) 1 26 := ⟨by decide +kernel, rfl⟩
theorem d7_26 : DAt B7 26 (.aload_n 0) 1 27 := ⟨by decide +kernel, rfl⟩
theorem d7_27 : DAt B7 27 (.iload_n 2) 1 28 := ⟨by decide +kernel, rfl⟩
theorem d7_28 : DAt B7 28 (.invokevirtual 101) 3 31 := ⟨by decide +kernel, rfl⟩
theorem d7_31 : DAt B7 31 (.aload_n 0) 1 32 := ⟨by decide +kernel, rfl⟩
theorem d7_32 : DAt B7 32 (.getfield 23) 3 35 := ⟨by decide +kernel, rfl⟩
theorem d7_35 : DAt B7 35 (.iload_n 2) 1 36 := ⟨by decide +kernel, rfl⟩
theorem d7_36 : DAt B7 36 (.iconst 1) 1 37 := ⟨by decide +kernel, rfl⟩
theorem d7_37 : DAt B7 37 (.bastore) 1 38 := ⟨by decide +kernel, rfl⟩
theorem d7_38 : DAt B7 38 (.aload_n 0) 1 39 := ⟨by decide +kernel, rfl⟩
theorem d7_39 : DAt B7 39 (.getfield 26) 3 42 := ⟨by decide +kernel, rfl⟩
theorem d7_42 : DAt B7 42 (.iload_n 2) 1 43 := ⟨by decide +kernel, rfl⟩
theorem d7_43 : DAt B7 43 (.iconst 0) 1 44 := ⟨by decide +kernel, rfl⟩
theorem d7_44 : DAt B7 44 (.iastore) 1 45 := ⟨by decide +kernel, rfl⟩
theorem d7_45 : DAt B7 45 (.aload_n 0) 1 46 := ⟨by decide +kernel, rfl⟩
theorem d7_46 : DAt B7 46 (.invokevirtual 104) 3 49 := ⟨by decide +kernel, rfl⟩
theorem d7_49 : DAt B7 49 (.ifCond .eq 7) 3 52 := ⟨by decide +kernel, rfl⟩
theorem d7_52 : DAt B7 52 (.aload_n 0) 1 53 := ⟨by decide +kernel, rfl⟩
theorem d7_53 : DAt B7 53 (.invokevirtual 108) 3 56 := ⟨by decide +kernel, rfl⟩
theorem d7_56 : DAt B7 56 (.return_) 1 57 := ⟨by decide +kernel, rfl⟩
def B6 : Bdy := ((⟨"MirrorResync", "step", "()I"⟩ : MethodName), prog_1_method_3_code, 2, (some .int), ({ frames := 2, cells := 0, slots := 0, locals := 28 } : Room))
theorem d6_0 : DAt B6 0 (.aload_n 0) 1 1 := ⟨by decide +kernel, rfl⟩
theorem d6_1 : DAt B6 1 (.getfield 46) 3 4 := ⟨by decide +kernel, rfl⟩
theorem d6_4 : DAt B6 4 (.ifCond .eq 5) 3 7 := ⟨by decide +kernel, rfl⟩
theorem d6_7 : DAt B6 7 (.iconst (-1)) 1 8 := ⟨by decide +kernel, rfl⟩
theorem d6_8 : DAt B6 8 (.ireturn) 1 9 := ⟨by decide +kernel, rfl⟩
theorem d6_9 : DAt B6 9 (.aload_n 0) 1 10 := ⟨by decide +kernel, rfl⟩
theorem d6_10 : DAt B6 10 (.getfield 50) 3 13 := ⟨by decide +kernel, rfl⟩
theorem d6_13 : DAt B6 13 (.ifCond .ne 6) 3 16 := ⟨by decide +kernel, rfl⟩
theorem d6_16 : DAt B6 16 (.bipush (-5)) 2 18 := ⟨by decide +kernel, rfl⟩
theorem d6_18 : DAt B6 18 (.ireturn) 1 19 := ⟨by decide +kernel, rfl⟩
theorem d6_19 : DAt B6 19 (.aload_n 0) 1 20 := ⟨by decide +kernel, rfl⟩
theorem d6_20 : DAt B6 20 (.getfield 59) 3 23 := ⟨by decide +kernel, rfl⟩
theorem d6_23 : DAt B6 23 (.iconst 1) 1 24 := ⟨by decide +kernel, rfl⟩
theorem d6_24 : DAt B6 24 (.if_icmp .gt 29) 3 27 := ⟨by decide +kernel, rfl⟩
theorem d6_27 : DAt B6 27 (.aload_n 0) 1 28 := ⟨by decide +kernel, rfl⟩
theorem d6_28 : DAt B6 28 (.getfield 16) 3 31 := ⟨by decide +kernel, rfl⟩
theorem d6_31 : DAt B6 31 (.aload_n 0) 1 32 := ⟨by decide +kernel, rfl⟩
theorem d6_32 : DAt B6 32 (.getfield 59) 3 35 := ⟨by decide +kernel, rfl⟩
theorem d6_35 : DAt B6 35 (.iaload) 1 36 := ⟨by decide +kernel, rfl⟩
theorem d6_36 : DAt B6 36 (.iconst 2) 1 37 := ⟨by decide +kernel, rfl⟩
theorem d6_37 : DAt B6 37 (.if_icmp .ne 16) 3 40 := ⟨by decide +kernel, rfl⟩
theorem d6_40 : DAt B6 40 (.aload_n 0) 1 41 := ⟨by decide +kernel, rfl⟩
theorem d6_41 : DAt B6 41 (.dup) 1 42 := ⟨by decide +kernel, rfl⟩
theorem d6_42 : DAt B6 42 (.getfield 59) 3 45 := ⟨by decide +kernel, rfl⟩
theorem d6_45 : DAt B6 45 (.iconst 1) 1 46 := ⟨by decide +kernel, rfl⟩
theorem d6_46 : DAt B6 46 (.iadd) 1 47 := ⟨by decide +kernel, rfl⟩
theorem d6_47 : DAt B6 47 (.putfield 59) 3 50 := ⟨by decide +kernel, rfl⟩
theorem d6_50 : DAt B6 50 (.goto (-31)) 3 53 := ⟨by decide +kernel, rfl⟩
theorem d6_53 : DAt B6 53 (.aload_n 0) 1 54 := ⟨by decide +kernel, rfl⟩
theorem d6_54 : DAt B6 54 (.getfield 59) 3 57 := ⟨by decide +kernel, rfl⟩
theorem d6_57 : DAt B6 57 (.iconst 1) 1 58 := ⟨by decide +kernel, rfl⟩
theorem d6_58 : DAt B6 58 (.if_icmp .gt 46) 3 61 := ⟨by decide +kernel, rfl⟩
theorem d6_61 : DAt B6 61 (.aload_n 0) 1 62 := ⟨by decide +kernel, rfl⟩
theorem d6_62 : DAt B6 62 (.getfield 59) 3 65 := ⟨by decide +kernel, rfl⟩
theorem d6_65 : DAt B6 65 (.istore_n 1) 1 66 := ⟨by decide +kernel, rfl⟩
theorem d6_66 : DAt B6 66 (.aload_n 0) 1 67 := ⟨by decide +kernel, rfl⟩
theorem d6_67 : DAt B6 67 (.getfield 7) 3 70 := ⟨by decide +kernel, rfl⟩
theorem d6_70 : DAt B6 70 (.iload_n 1) 1 71 := ⟨by decide +kernel, rfl⟩
theorem d6_71 : DAt B6 71 (.bipush 32) 2 73 := ⟨by decide +kernel, rfl⟩
theorem d6_73 : DAt B6 73 (.imul) 1 74 := ⟨by decide +kernel, rfl⟩
theorem d6_74 : DAt B6 74 (.aload_n 0) 1 75 := ⟨by decide +kernel, rfl⟩
theorem d6_75 : DAt B6 75 (.getfield 53) 3 78 := ⟨by decide +kernel, rfl⟩
theorem d6_78 : DAt B6 78 (.iadd) 1 79 := ⟨by decide +kernel, rfl⟩
theorem d6_79 : DAt B6 79 (.aload_n 0) 1 80 := ⟨by decide +kernel, rfl⟩
theorem d6_80 : DAt B6 80 (.getfield 56) 3 83 := ⟨by decide +kernel, rfl⟩
theorem d6_83 : DAt B6 83 (.iastore) 1 84 := ⟨by decide +kernel, rfl⟩
theorem d6_84 : DAt B6 84 (.aload_n 0) 1 85 := ⟨by decide +kernel, rfl⟩
theorem d6_85 : DAt B6 85 (.dup) 1 86 := ⟨by decide +kernel, rfl⟩
theorem d6_86 : DAt B6 86 (.getfield 59) 3 89 := ⟨by decide +kernel, rfl⟩
theorem d6_89 : DAt B6 89 (.iconst 1) 1 90 := ⟨by decide +kernel, rfl⟩
theorem d6_90 : DAt B6 90 (.iadd) 1 91 := ⟨by decide +kernel, rfl⟩
theorem d6_91 : DAt B6 91 (.putfield 59) 3 94 := ⟨by decide +kernel, rfl⟩
theorem d6_94 : DAt B6 94 (.iload_n 1) 1 95 := ⟨by decide +kernel, rfl⟩
theorem d6_95 : DAt B6 95 (.ifCond .ne 7) 3 98 := ⟨by decide +kernel, rfl⟩
theorem d6_98 : DAt B6 98 (.iconst 1) 1 99 := ⟨by decide +kernel, rfl⟩
theorem d6_99 : DAt B6 99 (.goto 4) 3 102 := ⟨by decide +kernel, rfl⟩
theorem d6_102 : DAt B6 102 (.iconst 2) 1 103 := ⟨by decide +kernel, rfl⟩
theorem d6_103 : DAt B6 103 (.ireturn) 1 104 := ⟨by decide +kernel, rfl⟩
theorem d6_104 : DAt B6 104 (.aload_n 0) 1 105 := ⟨by decide +kernel, rfl⟩
theorem d6_105 : DAt B6 105 (.invokevirtual 71) 3 108 := ⟨by decide +kernel, rfl⟩
theorem d6_108 : DAt B6 108 (.iconst 3) 1 109 := ⟨by decide +kernel, rfl⟩
theorem d6_109 : DAt B6 109 (.ireturn) 1 110 := ⟨by decide +kernel, rfl⟩
def B12 : Bdy := ((⟨"MirrorResync", "crash", "()I"⟩ : MethodName), prog_1_method_4_code, 1, (some .int), ({ frames := 1, cells := 0, slots := 0, locals := 12 } : Room))
theorem d12_0 : DAt B12 0 (.aload_n 0) 1 1 := ⟨by decide +kernel, rfl⟩
theorem d12_1 : DAt B12 1 (.getfield 46) 3 4 := ⟨by decide +kernel, rfl⟩
theorem d12_4 : DAt B12 4 (.ifCond .eq 5) 3 7 := ⟨by decide +kernel, rfl⟩
theorem d12_7 : DAt B12 7 (.iconst (-1)) 1 8 := ⟨by decide +kernel, rfl⟩
theorem d12_8 : DAt B12 8 (.ireturn) 1 9 := ⟨by decide +kernel, rfl⟩
theorem d12_9 : DAt B12 9 (.aload_n 0) 1 10 := ⟨by decide +kernel, rfl⟩
theorem d12_10 : DAt B12 10 (.invokevirtual 74) 3 13 := ⟨by decide +kernel, rfl⟩
theorem d12_13 : DAt B12 13 (.aload_n 0) 1 14 := ⟨by decide +kernel, rfl⟩
theorem d12_14 : DAt B12 14 (.iconst 1) 1 15 := ⟨by decide +kernel, rfl⟩
theorem d12_15 : DAt B12 15 (.putfield 46) 3 18 := ⟨by decide +kernel, rfl⟩
theorem d12_18 : DAt B12 18 (.iconst 0) 1 19 := ⟨by decide +kernel, rfl⟩
theorem d12_19 : DAt B12 19 (.ireturn) 1 20 := ⟨by decide +kernel, rfl⟩
def B13 : Bdy := ((⟨"MirrorResync", "pendingBlock", "()I"⟩ : MethodName), prog_1_method_13_code, 1, (some .int), ({ frames := 0, cells := 0, slots := 0, locals := 0 } : Room))
theorem d13_0 : DAt B13 0 (.aload_n 0) 1 1 := ⟨by decide +kernel, rfl⟩
theorem d13_1 : DAt B13 1 (.getfield 50) 3 4 := ⟨by decide +kernel, rfl⟩
theorem d13_4 : DAt B13 4 (.ifCond .eq 10) 3 7 := ⟨by decide +kernel, rfl⟩
theorem d13_7 : DAt B13 7 (.aload_n 0) 1 8 := ⟨by decide +kernel, rfl⟩
theorem d13_8 : DAt B13 8 (.getfield 53) 3 11 := ⟨by decide +kernel, rfl⟩
theorem d13_11 : DAt B13 11 (.goto 4) 3 14 := ⟨by decide +kernel, rfl⟩
theorem d13_14 : DAt B13 14 (.iconst (-1)) 1 15 := ⟨by decide +kernel, rfl⟩
theorem d13_15 : DAt B13 15 (.ireturn) 1 16 := ⟨by decide +kernel, rfl⟩
def B14 : Bdy := ((⟨"MirrorResync", "isDown", "()Z"⟩ : MethodName), prog_1_method_15_code, 1, (some .boolean), ({ frames := 0, cells := 0, slots := 0, locals := 0 } : Room))
theorem d14_0 : DAt B14 0 (.aload_n 0) 1 1 := ⟨by decide +kernel, rfl⟩
theorem d14_1 : DAt B14 1 (.getfield 46) 3 4 := ⟨by decide +kernel, rfl⟩
theorem d14_4 : DAt B14 4 (.ireturn) 1 5 := ⟨by decide +kernel, rfl⟩
def B15 : Bdy := ((⟨"MirrorResync", "read", "(I)I"⟩ : MethodName), prog_1_method_10_code, 3, (some .int), ({ frames := 1, cells := 0, slots := 0, locals := 13 } : Room))
theorem d15_0 : DAt B15 0 (.aload_n 0) 1 1 := ⟨by decide +kernel, rfl⟩
theorem d15_1 : DAt B15 1 (.getfield 46) 3 4 := ⟨by decide +kernel, rfl⟩
theorem d15_4 : DAt B15 4 (.ifCond .ne 11) 3 7 := ⟨by decide +kernel, rfl⟩
theorem d15_7 : DAt B15 7 (.aload_n 0) 1 8 := ⟨by decide +kernel, rfl⟩
theorem d15_8 : DAt B15 8 (.iload_n 1) 1 9 := ⟨by decide +kernel, rfl⟩
theorem d15_9 : DAt B15 9 (.invokevirtual 62) 3 12 := ⟨by decide +kernel, rfl⟩
theorem d15_12 : DAt B15 12 (.ifCond .ne 5) 3 15 := ⟨by decide +kernel, rfl⟩
theorem d15_15 : DAt B15 15 (.iconst (-1)) 1 16 := ⟨by decide +kernel, rfl⟩
theorem d15_16 : DAt B15 16 (.ireturn) 1 17 := ⟨by decide +kernel, rfl⟩
theorem d15_17 : DAt B15 17 (.aload_n 0) 1 18 := ⟨by decide +kernel, rfl⟩
theorem d15_18 : DAt B15 18 (.getfield 16) 3 21 := ⟨by decide +kernel, rfl⟩
theorem d15_21 : DAt B15 21 (.iconst 0) 1 22 := ⟨by decide +kernel, rfl⟩
theorem d15_22 : DAt B15 22 (.iaload) 1 23 := ⟨by decide +kernel, rfl⟩
theorem d15_23 : DAt B15 23 (.ifCond .ne 7) 3 26 := ⟨by decide +kernel, rfl⟩
theorem d15_26 : DAt B15 26 (.iconst 0) 1 27 := ⟨by decide +kernel, rfl⟩
theorem d15_27 : DAt B15 27 (.goto 4) 3 30 := ⟨by decide +kernel, rfl⟩
theorem d15_30 : DAt B15 30 (.iconst 1) 1 31 := ⟨by decide +kernel, rfl⟩
theorem d15_31 : DAt B15 31 (.istore_n 2) 1 32 := ⟨by decide +kernel, rfl⟩
theorem d15_32 : DAt B15 32 (.aload_n 0) 1 33 := ⟨by decide +kernel, rfl⟩
theorem d15_33 : DAt B15 33 (.getfield 7) 3 36 := ⟨by decide +kernel, rfl⟩
theorem d15_36 : DAt B15 36 (.iload_n 2) 1 37 := ⟨by decide +kernel, rfl⟩
theorem d15_37 : DAt B15 37 (.bipush 32) 2 39 := ⟨by decide +kernel, rfl⟩
theorem d15_39 : DAt B15 39 (.imul) 1 40 := ⟨by decide +kernel, rfl⟩
theorem d15_40 : DAt B15 40 (.iload_n 1) 1 41 := ⟨by decide +kernel, rfl⟩
theorem d15_41 : DAt B15 41 (.iadd) 1 42 := ⟨by decide +kernel, rfl⟩
theorem d15_42 : DAt B15 42 (.iaload) 1 43 := ⟨by decide +kernel, rfl⟩
theorem d15_43 : DAt B15 43 (.ireturn) 1 44 := ⟨by decide +kernel, rfl⟩
def B16 : Bdy := ((⟨"MirrorResync", "restart", "()I"⟩ : MethodName), prog_1_method_5_code, 1, (some .int), ({ frames := 0, cells := 0, slots := 0, locals := 0 } : Room))
theorem d16_0 : DAt B16 0 (.aload_n 0) 1 1 := ⟨by decide +kernel, rfl⟩
theorem d16_1 : DAt B16 1 (.getfield 46) 3 4 := ⟨by decide +kernel, rfl⟩
theorem d16_4 : DAt B16 4 (.ifCond .ne 6) 3 7 := ⟨by decide +kernel, rfl⟩
theorem d16_7 : DAt B16 7 (.bipush (-4)) 2 9 := ⟨by decide +kernel, rfl⟩
theorem d16_9 : DAt B16 9 (.ireturn) 1 10 := ⟨by decide +kernel, rfl⟩
theorem d16_10 : DAt B16 10 (.aload_n 0) 1 11 := ⟨by decide +kernel, rfl⟩
theorem d16_11 : DAt B16 11 (.iconst 0) 1 12 := ⟨by decide +kernel, rfl⟩
theorem d16_12 : DAt B16 12 (.putfield 46) 3 15 := ⟨by decide +kernel, rfl⟩
theorem d16_15 : DAt B16 15 (.aload_n 0) 1 16 := ⟨by decide +kernel, rfl⟩
theorem d16_16 : DAt B16 16 (.getfield 16) 3 19 := ⟨by decide +kernel, rfl⟩
theorem d16_19 : DAt B16 19 (.iconst 0) 1 20 := ⟨by decide +kernel, rfl⟩
theorem d16_20 : DAt B16 20 (.iaload) 1 21 := ⟨by decide +kernel, rfl⟩
theorem d16_21 : DAt B16 21 (.ifCond .ne 19) 3 24 := ⟨by decide +kernel, rfl⟩
theorem d16_24 : DAt B16 24 (.aload_n 0) 1 25 := ⟨by decide +kernel, rfl⟩
theorem d16_25 : DAt B16 25 (.getfield 16) 3 28 := ⟨by decide +kernel, rfl⟩
theorem d16_28 : DAt B16 28 (.iconst 1) 1 29 := ⟨by decide +kernel, rfl⟩
theorem d16_29 : DAt B16 29 (.iaload) 1 30 := ⟨by decide +kernel, rfl⟩
theorem d16_30 : DAt B16 30 (.ifCond .ne 10) 3 33 := ⟨by decide +kernel, rfl⟩
theorem d16_33 : DAt B16 33 (.aload_n 0) 1 34 := ⟨by decide +kernel, rfl⟩
theorem d16_34 : DAt B16 34 (.getfield 16) 3 37 := ⟨by decide +kernel, rfl⟩
theorem d16_37 : DAt B16 37 (.iconst 1) 1 38 := ⟨by decide +kernel, rfl⟩
theorem d16_38 : DAt B16 38 (.iconst 1) 1 39 := ⟨by decide +kernel, rfl⟩
theorem d16_39 : DAt B16 39 (.iastore) 1 40 := ⟨by decide +kernel, rfl⟩
theorem d16_40 : DAt B16 40 (.iconst 0) 1 41 := ⟨by decide +kernel, rfl⟩
theorem d16_41 : DAt B16 41 (.ireturn) 1 42 := ⟨by decide +kernel, rfl⟩
def B18 : Bdy := ((⟨"MirrorResync", "validLeg", "(I)Z"⟩ : MethodName), prog_1_method_19_code, 2, (some .boolean), ({ frames := 0, cells := 0, slots := 0, locals := 0 } : Room))
theorem d18_0 : DAt B18 0 (.iload_n 1) 1 1 := ⟨by decide +kernel, rfl⟩
theorem d18_1 : DAt B18 1 (.ifCond .eq 8) 3 4 := ⟨by decide +kernel, rfl⟩
theorem d18_4 : DAt B18 4 (.iload_n 1) 1 5 := ⟨by decide +kernel, rfl⟩
theorem d18_5 : DAt B18 5 (.iconst 1) 1 6 := ⟨by decide +kernel, rfl⟩
theorem d18_6 : DAt B18 6 (.if_icmp .ne 7) 3 9 := ⟨by decide +kernel, rfl⟩
theorem d18_9 : DAt B18 9 (.iconst 1) 1 10 := ⟨by decide +kernel, rfl⟩
theorem d18_10 : DAt B18 10 (.goto 4) 3 13 := ⟨by decide +kernel, rfl⟩
theorem d18_13 : DAt B18 13 (.iconst 0) 1 14 := ⟨by decide +kernel, rfl⟩
theorem d18_14 : DAt B18 14 (.ireturn) 1 15 := ⟨by decide +kernel, rfl⟩
def B17 : Bdy := ((⟨"MirrorResync", "legState", "(I)I"⟩ : MethodName), prog_1_method_12_code, 2, (some .int), ({ frames := 1, cells := 0, slots := 0, locals := 13 } : Room))
theorem d17_0 : DAt B17 0 (.aload_n 0) 1 1 := ⟨by decide +kernel, rfl⟩
theorem d17_1 : DAt B17 1 (.iload_n 1) 1 2 := ⟨by decide +kernel, rfl⟩
theorem d17_2 : DAt B17 2 (.invokevirtual 77) 3 5 := ⟨by decide +kernel, rfl⟩
theorem d17_5 : DAt B17 5 (.ifCond .ne 5) 3 8 := ⟨by decide +kernel, rfl⟩
theorem d17_8 : DAt B17 8 (.iconst (-1)) 1 9 := ⟨by decide +kernel, rfl⟩
theorem d17_9 : DAt B17 9 (.ireturn) 1 10 := ⟨by decide +kernel, rfl⟩
theorem d17_10 : DAt B17 10 (.aload_n 0) 1 11 := ⟨by decide +kernel, rfl⟩
theorem d17_11 : DAt B17 11 (.getfield 16) 3 14 := ⟨by decide +kernel, rfl⟩
theorem d17_14 : DAt B17 14 (.iload_n 1) 1 15 := ⟨by decide +kernel, rfl⟩
theorem d17_15 : DAt B17 15 (.iaload) 1 16 := ⟨by decide +kernel, rfl⟩
theorem d17_16 : DAt B17 16 (.ireturn) 1 17 := ⟨by decide +kernel, rfl⟩
def B19 : Bdy := ((⟨"MirrorResync", "peek", "(II)I"⟩ : MethodName), prog_1_method_11_code, 3, (some .int), ({ frames := 1, cells := 0, slots := 0, locals := 13 } : Room))
theorem d19_0 : DAt B19 0 (.aload_n 0) 1 1 := ⟨by decide +kernel, rfl⟩
theorem d19_1 : DAt B19 1 (.iload_n 1) 1 2 := ⟨by decide +kernel, rfl⟩
theorem d19_2 : DAt B19 2 (.invokevirtual 77) 3 5 := ⟨by decide +kernel, rfl⟩
theorem d19_5 : DAt B19 5 (.ifCond .eq 11) 3 8 := ⟨by decide +kernel, rfl⟩
theorem d19_8 : DAt B19 8 (.aload_n 0) 1 9 := ⟨by decide +kernel, rfl⟩
theorem d19_9 : DAt B19 9 (.iload_n 2) 1 10 := ⟨by decide +kernel, rfl⟩
theorem d19_10 : DAt B19 10 (.invokevirtual 62) 3 13 := ⟨by decide +kernel, rfl⟩
theorem d19_13 : DAt B19 13 (.ifCond .ne 5) 3 16 := ⟨by decide +kernel, rfl⟩
theorem d19_16 : DAt B19 16 (.iconst (-1)) 1 17 := ⟨by decide +kernel, rfl⟩
theorem d19_17 : DAt B19 17 (.ireturn) 1 18 := ⟨by decide +kernel, rfl⟩
theorem d19_18 : DAt B19 18 (.aload_n 0) 1 19 := ⟨by decide +kernel, rfl⟩
theorem d19_19 : DAt B19 19 (.getfield 7) 3 22 := ⟨by decide +kernel, rfl⟩
theorem d19_22 : DAt B19 22 (.iload_n 1) 1 23 := ⟨by decide +kernel, rfl⟩
theorem d19_23 : DAt B19 23 (.bipush 32) 2 25 := ⟨by decide +kernel, rfl⟩
theorem d19_25 : DAt B19 25 (.imul) 1 26 := ⟨by decide +kernel, rfl⟩
theorem d19_26 : DAt B19 26 (.iload_n 2) 1 27 := ⟨by decide +kernel, rfl⟩
theorem d19_27 : DAt B19 27 (.iadd) 1 28 := ⟨by decide +kernel, rfl⟩
theorem d19_28 : DAt B19 28 (.iaload) 1 29 := ⟨by decide +kernel, rfl⟩
theorem d19_29 : DAt B19 29 (.ireturn) 1 30 := ⟨by decide +kernel, rfl⟩
def B20 : Bdy := ((⟨"MirrorResync", "ackedValue", "(I)I"⟩ : MethodName), prog_1_method_16_code, 2, (some .int), ({ frames := 1, cells := 0, slots := 0, locals := 13 } : Room))
theorem d20_0 : DAt B20 0 (.aload_n 0) 1 1 := ⟨by decide +kernel, rfl⟩
theorem d20_1 : DAt B20 1 (.iload_n 1) 1 2 := ⟨by decide +kernel, rfl⟩
theorem d20_2 : DAt B20 2 (.invokevirtual 62) 3 5 := ⟨by decide +kernel, rfl⟩
theorem d20_5 : DAt B20 5 (.ifCond .ne 5) 3 8 := ⟨by decide +kernel, rfl⟩
theorem d20_8 : DAt B20 8 (.iconst (-1)) 1 9 := ⟨by decide +kernel, rfl⟩
theorem d20_9 : DAt B20 9 (.ireturn) 1 10 := ⟨by decide +kernel, rfl⟩
theorem d20_10 : DAt B20 10 (.aload_n 0) 1 11 := ⟨by decide +kernel, rfl⟩
theorem d20_11 : DAt B20 11 (.getfield 13) 3 14 := ⟨by decide +kernel, rfl⟩
theorem d20_14 : DAt B20 14 (.iload_n 1) 1 15 := ⟨by decide +kernel, rfl⟩
theorem d20_15 : DAt B20 15 (.iaload) 1 16 := ⟨by decide +kernel, rfl⟩
theorem d20_16 : DAt B20 16 (.ireturn) 1 17 := ⟨by decide +kernel, rfl⟩
def B22 : Bdy := ((⟨"MirrorResync", "staleLeg", "()I"⟩ : MethodName), prog_1_method_22_code, 1, (some .int), ({ frames := 0, cells := 0, slots := 0, locals := 0 } : Room))
theorem d22_0 : DAt B22 0 (.aload_n 0) 1 1 := ⟨by decide +kernel, rfl⟩
theorem d22_1 : DAt B22 1 (.getfield 16) 3 4 := ⟨by decide +kernel, rfl⟩
theorem d22_4 : DAt B22 4 (.iconst 0) 1 5 := ⟨by decide +kernel, rfl⟩
theorem d22_5 : DAt B22 5 (.iaload) 1 6 := ⟨by decide +kernel, rfl⟩
theorem d22_6 : DAt B22 6 (.iconst 1) 1 7 := ⟨by decide +kernel, rfl⟩
theorem d22_7 : DAt B22 7 (.if_icmp .ne 5) 3 10 := ⟨by decide +kernel, rfl⟩
theorem d22_10 : DAt B22 10 (.iconst 0) 1 11 := ⟨by decide +kernel, rfl⟩
theorem d22_11 : DAt B22 11 (.ireturn) 1 12 := ⟨by decide +kernel, rfl⟩
theorem d22_12 : DAt B22 12 (.aload_n 0) 1 13 := ⟨by decide +kernel, rfl⟩
theorem d22_13 : DAt B22 13 (.getfield 16) 3 16 := ⟨by decide +kernel, rfl⟩
theorem d22_16 : DAt B22 16 (.iconst 1) 1 17 := ⟨by decide +kernel, rfl⟩
theorem d22_17 : DAt B22 17 (.iaload) 1 18 := ⟨by decide +kernel, rfl⟩
theorem d22_18 : DAt B22 18 (.iconst 1) 1 19 := ⟨by decide +kernel, rfl⟩
theorem d22_19 : DAt B22 19 (.if_icmp .ne 5) 3 22 := ⟨by decide +kernel, rfl⟩
theorem d22_22 : DAt B22 22 (.iconst 1) 1 23 := ⟨by decide +kernel, rfl⟩
theorem d22_23 : DAt B22 23 (.ireturn) 1 24 := ⟨by decide +kernel, rfl⟩
theorem d22_24 : DAt B22 24 (.iconst (-1)) 1 25 := ⟨by decide +kernel, rfl⟩
theorem d22_25 : DAt B22 25 (.ireturn) 1 26 := ⟨by decide +kernel, rfl⟩
def B23 : Bdy := ((⟨"MirrorResync", "copyDirtyRegions", "(II)V"⟩ : MethodName), prog_1_method_31_code, 9, none, ({ frames := 0, cells := 0, slots := 0, locals := 0 } : Room))
theorem d23_0 : DAt B23 0 (.iload_n 1) 1 1 := ⟨by decide +kernel, rfl⟩
theorem d23_1 : DAt B23 1 (.bipush 32) 2 3 := ⟨by decide +kernel, rfl⟩
theorem d23_3 : DAt B23 3 (.imul) 1 4 := ⟨by decide +kernel, rfl⟩
theorem d23_4 : DAt B23 4 (.istore_n 3) 1 5 := ⟨by decide +kernel, rfl⟩
theorem d23_5 : DAt B23 5 (.iload_n 2) 1 6 := ⟨by decide +kernel, rfl⟩
theorem d23_6 : DAt B23 6 (.bipush 32) 2 8 := ⟨by decide +kernel, rfl⟩
theorem d23_8 : DAt B23 8 (.imul) 1 9 := ⟨by decide +kernel, rfl⟩
theorem d23_9 : DAt B23 9 (.istore 4) 2 11 := ⟨by decide +kernel, rfl⟩
theorem d23_11 : DAt B23 11 (.iconst 0) 1 12 := ⟨by decide +kernel, rfl⟩
theorem d23_12 : DAt B23 12 (.istore 5) 2 14 := ⟨by decide +kernel, rfl⟩
theorem d23_14 : DAt B23 14 (.iload 5) 2 16 := ⟨by decide +kernel, rfl⟩
theorem d23_16 : DAt B23 16 (.aload_n 0) 1 17 := ⟨by decide +kernel, rfl⟩
theorem d23_17 : DAt B23 17 (.getfield 43) 3 20 := ⟨by decide +kernel, rfl⟩
theorem d23_20 : DAt B23 20 (.if_icmp .ge 91) 3 23 := ⟨by decide +kernel, rfl⟩
theorem d23_23 : DAt B23 23 (.aload_n 0) 1 24 := ⟨by decide +kernel, rfl⟩
theorem d23_24 : DAt B23 24 (.getfield 19) 3 27 := ⟨by decide +kernel, rfl⟩
theorem d23_27 : DAt B23 27 (.iload 5) 2 29 := ⟨by decide +kernel, rfl⟩
theorem d23_29 : DAt B23 29 (.baload) 1 30 := ⟨by decide +kernel, rfl⟩
theorem d23_30 : DAt B23 30 (.ifCond .ne 6) 3 33 := ⟨by decide +kernel, rfl⟩
theorem d23_33 : DAt B23 33 (.goto 72) 3 36 := ⟨by decide +kernel, rfl⟩
theorem d23_36 : DAt B23 36 (.iload 5) 2 38 := ⟨by decide +kernel, rfl⟩
theorem d23_38 : DAt B23 38 (.aload_n 0) 1 39 := ⟨by decide +kernel, rfl⟩
theorem d23_39 : DAt B23 39 (.getfield 37) 3 42 := ⟨by decide +kernel, rfl⟩
theorem d23_42 : DAt B23 42 (.imul) 1 43 := ⟨by decide +kernel, rfl⟩
theorem d23_43 : DAt B23 43 (.istore 6) 2 45 := ⟨by decide +kernel, rfl⟩
theorem d23_45 : DAt B23 45 (.iload 6) 2 47 := ⟨by decide +kernel, rfl⟩
theorem d23_47 : DAt B23 47 (.aload_n 0) 1 48 := ⟨by decide +kernel, rfl⟩
theorem d23_48 : DAt B23 48 (.getfield 37) 3 51 := ⟨by decide +kernel, rfl⟩
theorem d23_51 : DAt B23 51 (.iadd) 1 52 := ⟨by decide +kernel, rfl⟩
theorem d23_52 : DAt B23 52 (.istore 7) 2 54 := ⟨by decide +kernel, rfl⟩
theorem d23_54 : DAt B23 54 (.iload 7) 2 56 := ⟨by decide +kernel, rfl⟩
theorem d23_56 : DAt B23 56 (.aload_n 0) 1 57 := ⟨by decide +kernel, rfl⟩
theorem d23_57 : DAt B23 57 (.getfield 33) 3 60 := ⟨by decide +kernel, rfl⟩
theorem d23_60 : DAt B23 60 (.if_icmp .le 9) 3 63 := ⟨by decide +kernel, rfl⟩
theorem d23_63 : DAt B23 63 (.aload_n 0) 1 64 := ⟨by decide +kernel, rfl⟩
theorem d23_64 : DAt B23 64 (.getfield 33) 3 67 := ⟨by decide +kernel, rfl⟩
theorem d23_67 : DAt B23 67 (.istore 7) 2 69 := ⟨by decide +kernel, rfl⟩
theorem d23_69 : DAt B23 69 (.iload 6) 2 71 := ⟨by decide +kernel, rfl⟩
theorem d23_71 : DAt B23 71 (.istore 8) 2 73 := ⟨by decide +kernel, rfl⟩
theorem d23_73 : DAt B23 73 (.iload 8) 2 75 := ⟨by decide +kernel, rfl⟩
theorem d23_75 : DAt B23 75 (.iload 7) 2 77 := ⟨by decide +kernel, rfl⟩
theorem d23_77 : DAt B23 77 (.if_icmp .ge 28) 3 80 := ⟨by decide +kernel, rfl⟩
theorem d23_80 : DAt B23 80 (.aload_n 0) 1 81 := ⟨by decide +kernel, rfl⟩
theorem d23_81 : DAt B23 81 (.getfield 7) 3 84 := ⟨by decide +kernel, rfl⟩
theorem d23_84 : DAt B23 84 (.iload 4) 2 86 := ⟨by decide +kernel, rfl⟩
theorem d23_86 : DAt B23 86 (.iload 8) 2 88 := ⟨by decide +kernel, rfl⟩
theorem d23_88 : DAt B23 88 (.iadd) 1 89 := ⟨by decide +kernel, rfl⟩
theorem d23_89 : DAt B23 89 (.aload_n 0) 1 90 := ⟨by decide +kernel, rfl⟩
theorem d23_90 : DAt B23 90 (.getfield 7) 3 93 := ⟨by decide +kernel, rfl⟩
theorem d23_93 : DAt B23 93 (.iload_n 3) 1 94 := ⟨by decide +kernel, rfl⟩
theorem d23_94 : DAt B23 94 (.iload 8) 2 96 := ⟨by decide +kernel, rfl⟩
theorem d23_96 : DAt B23 96 (.iadd) 1 97 := ⟨by decide +kernel, rfl⟩
theorem d23_97 : DAt B23 97 (.iaload) 1 98 := ⟨by decide +kernel, rfl⟩
theorem d23_98 : DAt B23 98 (.iastore) 1 99 := ⟨by decide +kernel, rfl⟩
theorem d23_99 : DAt B23 99 (.iinc 8 1) 3 102 := ⟨by decide +kernel, rfl⟩
theorem d23_102 : DAt B23 102 (.goto (-29)) 3 105 := ⟨by decide +kernel, rfl⟩
theorem d23_105 : DAt B23 105 (.iinc 5 1) 3 108 := ⟨by decide +kernel, rfl⟩
theorem d23_108 : DAt B23 108 (.goto (-94)) 3 111 := ⟨by decide +kernel, rfl⟩
theorem d23_111 : DAt B23 111 (.return_) 1 112 := ⟨by decide +kernel, rfl⟩
def B24 : Bdy := ((⟨"MirrorResync", "clearBitmap", "()V"⟩ : MethodName), prog_1_method_29_code, 2, none, ({ frames := 0, cells := 0, slots := 0, locals := 0 } : Room))
theorem d24_0 : DAt B24 0 (.iconst 0) 1 1 := ⟨by decide +kernel, rfl⟩
theorem d24_1 : DAt B24 1 (.istore_n 1) 1 2 := ⟨by decide +kernel, rfl⟩
theorem d24_2 : DAt B24 2 (.iload_n 1) 1 3 := ⟨by decide +kernel, rfl⟩
theorem d24_3 : DAt B24 3 (.bipush 32) 2 5 := ⟨by decide +kernel, rfl⟩
theorem d24_5 : DAt B24 5 (.if_icmp .ge 30) 3 8 := ⟨by decide +kernel, rfl⟩
theorem d24_8 : DAt B24 8 (.aload_n 0) 1 9 := ⟨by decide +kernel, rfl⟩
theorem d24_9 : DAt B24 9 (.getfield 19) 3 12 := ⟨by decide +kernel, rfl⟩
theorem d24_12 : DAt B24 12 (.iload_n 1) 1 13 := ⟨by decide +kernel, rfl⟩
theorem d24_13 : DAt B24 13 (.iconst 0) 1 14 := ⟨by decide +kernel, rfl⟩
theorem d24_14 : DAt B24 14 (.bastore) 1 15 := ⟨by decide +kernel, rfl⟩
theorem d24_15 : DAt B24 15 (.aload_n 0) 1 16 := ⟨by decide +kernel, rfl⟩
theorem d24_16 : DAt B24 16 (.getfield 23) 3 19 := ⟨by decide +kernel, rfl⟩
theorem d24_19 : DAt B24 19 (.iload_n 1) 1 20 := ⟨by decide +kernel, rfl⟩
theorem d24_20 : DAt B24 20 (.iconst 0) 1 21 := ⟨by decide +kernel, rfl⟩
theorem d24_21 : DAt B24 21 (.bastore) 1 22 := ⟨by decide +kernel, rfl⟩
theorem d24_22 : DAt B24 22 (.aload_n 0) 1 23 := ⟨by decide +kernel, rfl⟩
theorem d24_23 : DAt B24 23 (.getfield 26) 3 26 := ⟨by decide +kernel, rfl⟩
theorem d24_26 : DAt B24 26 (.iload_n 1) 1 27 := ⟨by decide +kernel, rfl⟩
theorem d24_27 : DAt B24 27 (.iconst 0) 1 28 := ⟨by decide +kernel, rfl⟩
theorem d24_28 : DAt B24 28 (.iastore) 1 29 := ⟨by decide +kernel, rfl⟩
theorem d24_29 : DAt B24 29 (.iinc 1 1) 3 32 := ⟨by decide +kernel, rfl⟩
theorem d24_32 : DAt B24 32 (.goto (-30)) 3 35 := ⟨by decide +kernel, rfl⟩
theorem d24_35 : DAt B24 35 (.return_) 1 36 := ⟨by decide +kernel, rfl⟩
def B21 : Bdy := ((⟨"MirrorResync", "resync", "()I"⟩ : MethodName), prog_1_method_9_code, 2, (some .int), ({ frames := 1, cells := 0, slots := 0, locals := 20 } : Room))
theorem d21_0 : DAt B21 0 (.aload_n 0) 1 1 := ⟨by decide +kernel, rfl⟩
theorem d21_1 : DAt B21 1 (.getfield 46) 3 4 := ⟨by decide +kernel, rfl⟩
theorem d21_4 : DAt B21 4 (.ifCond .eq 5) 3 7 := ⟨by decide +kernel, rfl⟩
theorem d21_7 : DAt B21 7 (.iconst (-1)) 1 8 := ⟨by decide +kernel, rfl⟩
theorem d21_8 : DAt B21 8 (.ireturn) 1 9 := ⟨by decide +kernel, rfl⟩
theorem d21_9 : DAt B21 9 (.aload_n 0) 1 10 := ⟨by decide +kernel, rfl⟩
theorem d21_10 : DAt B21 10 (.getfield 50) 3 13 := ⟨by decide +kernel, rfl⟩
theorem d21_13 : DAt B21 13 (.ifCond .eq 6) 3 16 := ⟨by decide +kernel, rfl⟩
theorem d21_16 : DAt B21 16 (.bipush (-3)) 2 18 := ⟨by decide +kernel, rfl⟩
theorem d21_18 : DAt B21 18 (.ireturn) 1 19 := ⟨by decide +kernel, rfl⟩
theorem d21_19 : DAt B21 19 (.aload_n 0) 1 20 := ⟨by decide +kernel, rfl⟩
theorem d21_20 : DAt B21 20 (.invokevirtual 90) 3 23 := ⟨by decide +kernel, rfl⟩
theorem d21_23 : DAt B21 23 (.istore_n 1) 1 24 := ⟨by decide +kernel, rfl⟩
theorem d21_24 : DAt B21 24 (.iload_n 1) 1 25 := ⟨by decide +kernel, rfl⟩
theorem d21_25 : DAt B21 25 (.iconst (-1)) 1 26 := ⟨by decide +kernel, rfl⟩
theorem d21_26 : DAt B21 26 (.if_icmp .ne 6) 3 29 := ⟨by decide +kernel, rfl⟩
theorem d21_29 : DAt B21 29 (.bipush (-4)) 2 31 := ⟨by decide +kernel, rfl⟩
theorem d21_31 : DAt B21 31 (.ireturn) 1 32 := ⟨by decide +kernel, rfl⟩
theorem d21_32 : DAt B21 32 (.aload_n 0) 1 33 := ⟨by decide +kernel, rfl⟩
theorem d21_33 : DAt B21 33 (.iconst 1) 1 34 := ⟨by decide +kernel, rfl⟩
theorem d21_34 : DAt B21 34 (.iload_n 1) 1 35 := ⟨by decide +kernel, rfl⟩
theorem d21_35 : DAt B21 35 (.isub) 1 36 := ⟨by decide +kernel, rfl⟩
theorem d21_36 : DAt B21 36 (.iload_n 1) 1 37 := ⟨by decide +kernel, rfl⟩
theorem d21_37 : DAt B21 37 (.invokevirtual 94) 3 40 := ⟨by decide +kernel, rfl⟩
theorem d21_40 : DAt B21 40 (.aload_n 0) 1 41 := ⟨by decide +kernel, rfl⟩
theorem d21_41 : DAt B21 41 (.invokevirtual 98) 3 44 := ⟨by decide +kernel, rfl⟩
theorem d21_44 : DAt B21 44 (.aload_n 0) 1 45 := ⟨by decide +kernel, rfl⟩
theorem d21_45 : DAt B21 45 (.getfield 16) 3 48 := ⟨by decide +kernel, rfl⟩
theorem d21_48 : DAt B21 48 (.iload_n 1) 1 49 := ⟨by decide +kernel, rfl⟩
theorem d21_49 : DAt B21 49 (.iconst 0) 1 50 := ⟨by decide +kernel, rfl⟩
theorem d21_50 : DAt B21 50 (.iastore) 1 51 := ⟨by decide +kernel, rfl⟩
theorem d21_51 : DAt B21 51 (.iconst 0) 1 52 := ⟨by decide +kernel, rfl⟩
theorem d21_52 : DAt B21 52 (.ireturn) 1 53 := ⟨by decide +kernel, rfl⟩
def B0 : Bdy := (x, code, maxLocals, ret, room_1)
theorem d0_0 : DAt B0 0 (.new 7) 3 3 := ⟨at_0, rfl⟩
theorem d0_3 : DAt B0 3 (.dup) 1 4 := ⟨at_3, rfl⟩
theorem d0_4 : DAt B0 4 (.bipush 8) 2 6 := ⟨at_4, rfl⟩
theorem d0_6 : DAt B0 6 (.iload_n 0) 1 7 := ⟨at_6, rfl⟩
theorem d0_7 : DAt B0 7 (.iload_n 1) 1 8 := ⟨at_7, rfl⟩
theorem d0_8 : DAt B0 8 (.invokespecial 9) 3 11 := ⟨at_8, rfl⟩
theorem d0_11 : DAt B0 11 (.astore 6) 2 13 := ⟨at_11, rfl⟩
theorem d0_13 : DAt B0 13 (.iload_n 2) 1 14 := ⟨at_13, rfl⟩
theorem d0_14 : DAt B0 14 (.bipush 7) 2 16 := ⟨at_14, rfl⟩
theorem d0_16 : DAt B0 16 (.iand) 1 17 := ⟨at_16, rfl⟩
theorem d0_17 : DAt B0 17 (.istore 7) 2 19 := ⟨at_17, rfl⟩
theorem d0_19 : DAt B0 19 (.iload_n 3) 1 20 := ⟨at_19, rfl⟩
theorem d0_20 : DAt B0 20 (.bipush 7) 2 22 := ⟨at_20, rfl⟩
theorem d0_22 : DAt B0 22 (.iand) 1 23 := ⟨at_22, rfl⟩
theorem d0_23 : DAt B0 23 (.istore 8) 2 25 := ⟨at_23, rfl⟩
theorem d0_25 : DAt B0 25 (.iload 4) 2 27 := ⟨at_25, rfl⟩
theorem d0_27 : DAt B0 27 (.ldc 12) 2 29 := ⟨at_27, rfl⟩
theorem d0_29 : DAt B0 29 (.iand) 1 30 := ⟨at_29, rfl⟩
theorem d0_30 : DAt B0 30 (.istore 9) 2 32 := ⟨at_30, rfl⟩
theorem d0_32 : DAt B0 32 (.iload 5) 2 34 := ⟨at_32, rfl⟩
theorem d0_34 : DAt B0 34 (.ldc 12) 2 36 := ⟨at_34, rfl⟩
theorem d0_36 : DAt B0 36 (.iand) 1 37 := ⟨at_36, rfl⟩
theorem d0_37 : DAt B0 37 (.istore 10) 2 39 := ⟨at_37, rfl⟩
theorem d0_39 : DAt B0 39 (.aload 6) 2 41 := ⟨at_39, rfl⟩
theorem d0_41 : DAt B0 41 (.iload 7) 2 43 := ⟨at_41, rfl⟩
theorem d0_43 : DAt B0 43 (.iload 9) 2 45 := ⟨at_43, rfl⟩
theorem d0_45 : DAt B0 45 (.invokevirtual 13) 3 48 := ⟨at_45, rfl⟩
theorem d0_48 : DAt B0 48 (.ifCond .eq 5) 3 51 := ⟨at_48, rfl⟩
theorem d0_51 : DAt B0 51 (.iconst 0) 1 52 := ⟨at_51, rfl⟩
theorem d0_52 : DAt B0 52 (.ireturn) 1 53 := ⟨at_52, rfl⟩
theorem d0_53 : DAt B0 53 (.aload 6) 2 55 := ⟨at_53, rfl⟩
theorem d0_55 : DAt B0 55 (.invokevirtual 17) 3 58 := ⟨at_55, rfl⟩
theorem d0_58 : DAt B0 58 (.iconst 1) 1 59 := ⟨at_58, rfl⟩
theorem d0_59 : DAt B0 59 (.if_icmp .eq 5) 3 62 := ⟨at_59, rfl⟩
theorem d0_62 : DAt B0 62 (.iconst 0) 1 63 := ⟨at_62, rfl⟩
theorem d0_63 : DAt B0 63 (.ireturn) 1 64 := ⟨at_63, rfl⟩
theorem d0_64 : DAt B0 64 (.aload 6) 2 66 := ⟨at_64, rfl⟩
theorem d0_66 : DAt B0 66 (.invokevirtual 17) 3 69 := ⟨at_66, rfl⟩
theorem d0_69 : DAt B0 69 (.iconst 2) 1 70 := ⟨at_69, rfl⟩
theorem d0_70 : DAt B0 70 (.if_icmp .eq 5) 3 73 := ⟨at_70, rfl⟩
theorem d0_73 : DAt B0 73 (.iconst 0) 1 74 := ⟨at_73, rfl⟩
theorem d0_74 : DAt B0 74 (.ireturn) 1 75 := ⟨at_74, rfl⟩
theorem d0_75 : DAt B0 75 (.aload 6) 2 77 := ⟨at_75, rfl⟩
theorem d0_77 : DAt B0 77 (.invokevirtual 17) 3 80 := ⟨at_77, rfl⟩
theorem d0_80 : DAt B0 80 (.iconst 3) 1 81 := ⟨at_80, rfl⟩
theorem d0_81 : DAt B0 81 (.if_icmp .eq 5) 3 84 := ⟨at_81, rfl⟩
theorem d0_84 : DAt B0 84 (.iconst 0) 1 85 := ⟨at_84, rfl⟩
theorem d0_85 : DAt B0 85 (.ireturn) 1 86 := ⟨at_85, rfl⟩
theorem d0_86 : DAt B0 86 (.aload 6) 2 88 := ⟨at_86, rfl⟩
theorem d0_88 : DAt B0 88 (.iload 8) 2 90 := ⟨at_88, rfl⟩
theorem d0_90 : DAt B0 90 (.iload 10) 2 92 := ⟨at_90, rfl⟩
theorem d0_92 : DAt B0 92 (.invokevirtual 13) 3 95 := ⟨at_92, rfl⟩
theorem d0_95 : DAt B0 95 (.ifCond .eq 5) 3 98 := ⟨at_95, rfl⟩
theorem d0_98 : DAt B0 98 (.iconst 0) 1 99 := ⟨at_98, rfl⟩
theorem d0_99 : DAt B0 99 (.ireturn) 1 100 := ⟨at_99, rfl⟩
theorem d0_100 : DAt B0 100 (.aload 6) 2 102 := ⟨at_100, rfl⟩
theorem d0_102 : DAt B0 102 (.invokevirtual 17) 3 105 := ⟨at_102, rfl⟩
theorem d0_105 : DAt B0 105 (.iconst 1) 1 106 := ⟨at_105, rfl⟩
theorem d0_106 : DAt B0 106 (.if_icmp .eq 5) 3 109 := ⟨at_106, rfl⟩
theorem d0_109 : DAt B0 109 (.iconst 0) 1 110 := ⟨at_109, rfl⟩
theorem d0_110 : DAt B0 110 (.ireturn) 1 111 := ⟨at_110, rfl⟩
theorem d0_111 : DAt B0 111 (.aload 6) 2 113 := ⟨at_111, rfl⟩
theorem d0_113 : DAt B0 113 (.invokevirtual 21) 3 116 := ⟨at_113, rfl⟩
theorem d0_116 : DAt B0 116 (.ifCond .eq 5) 3 119 := ⟨at_116, rfl⟩
theorem d0_119 : DAt B0 119 (.iconst 0) 1 120 := ⟨at_119, rfl⟩
theorem d0_120 : DAt B0 120 (.ireturn) 1 121 := ⟨at_120, rfl⟩
theorem d0_121 : DAt B0 121 (.aload 6) 2 123 := ⟨at_121, rfl⟩
theorem d0_123 : DAt B0 123 (.invokevirtual 24) 3 126 := ⟨at_123, rfl⟩
theorem d0_126 : DAt B0 126 (.iconst (-1)) 1 127 := ⟨at_126, rfl⟩
theorem d0_127 : DAt B0 127 (.if_icmp .eq 5) 3 130 := ⟨at_127, rfl⟩
theorem d0_130 : DAt B0 130 (.iconst 0) 1 131 := ⟨at_130, rfl⟩
theorem d0_131 : DAt B0 131 (.ireturn) 1 132 := ⟨at_131, rfl⟩
theorem d0_132 : DAt B0 132 (.aload 6) 2 134 := ⟨at_132, rfl⟩
theorem d0_134 : DAt B0 134 (.invokevirtual 27) 3 137 := ⟨at_134, rfl⟩
theorem d0_137 : DAt B0 137 (.ifCond .ne 5) 3 140 := ⟨at_137, rfl⟩
theorem d0_140 : DAt B0 140 (.iconst 0) 1 141 := ⟨at_140, rfl⟩
theorem d0_141 : DAt B0 141 (.ireturn) 1 142 := ⟨at_141, rfl⟩
theorem d0_142 : DAt B0 142 (.aload 6) 2 144 := ⟨at_142, rfl⟩
theorem d0_144 : DAt B0 144 (.iload 8) 2 146 := ⟨at_144, rfl⟩
theorem d0_146 : DAt B0 146 (.invokevirtual 31) 3 149 := ⟨at_146, rfl⟩
theorem d0_149 : DAt B0 149 (.iconst (-1)) 1 150 := ⟨at_149, rfl⟩
theorem d0_150 : DAt B0 150 (.if_icmp .eq 5) 3 153 := ⟨at_150, rfl⟩
theorem d0_153 : DAt B0 153 (.iconst 0) 1 154 := ⟨at_153, rfl⟩
theorem d0_154 : DAt B0 154 (.ireturn) 1 155 := ⟨at_154, rfl⟩
theorem d0_155 : DAt B0 155 (.aload 6) 2 157 := ⟨at_155, rfl⟩
theorem d0_157 : DAt B0 157 (.invokevirtual 35) 3 160 := ⟨at_157, rfl⟩
theorem d0_160 : DAt B0 160 (.ifCond .eq 5) 3 163 := ⟨at_160, rfl⟩
theorem d0_163 : DAt B0 163 (.iconst 0) 1 164 := ⟨at_163, rfl⟩
theorem d0_164 : DAt B0 164 (.ireturn) 1 165 := ⟨at_164, rfl⟩
theorem d0_165 : DAt B0 165 (.aload 6) 2 167 := ⟨at_165, rfl⟩
theorem d0_167 : DAt B0 167 (.iconst 0) 1 168 := ⟨at_167, rfl⟩
theorem d0_168 : DAt B0 168 (.invokevirtual 38) 3 171 := ⟨at_168, rfl⟩
theorem d0_171 : DAt B0 171 (.ifCond .eq 5) 3 174 := ⟨at_171, rfl⟩
theorem d0_174 : DAt B0 174 (.iconst 0) 1 175 := ⟨at_174, rfl⟩
theorem d0_175 : DAt B0 175 (.ireturn) 1 176 := ⟨at_175, rfl⟩
theorem d0_176 : DAt B0 176 (.aload 6) 2 178 := ⟨at_176, rfl⟩
theorem d0_178 : DAt B0 178 (.iconst 1) 1 179 := ⟨at_178, rfl⟩
theorem d0_179 : DAt B0 179 (.invokevirtual 38) 3 182 := ⟨at_179, rfl⟩
theorem d0_182 : DAt B0 182 (.iconst 1) 1 183 := ⟨at_182, rfl⟩
theorem d0_183 : DAt B0 183 (.if_icmp .eq 5) 3 186 := ⟨at_183, rfl⟩
theorem d0_186 : DAt B0 186 (.iconst 0) 1 187 := ⟨at_186, rfl⟩
theorem d0_187 : DAt B0 187 (.ireturn) 1 188 := ⟨at_187, rfl⟩
theorem d0_188 : DAt B0 188 (.iload 7) 2 190 := ⟨at_188, rfl⟩
theorem d0_190 : DAt B0 190 (.iload 8) 2 192 := ⟨at_190, rfl⟩
theorem d0_192 : DAt B0 192 (.if_icmp .ne 8) 3 195 := ⟨at_192, rfl⟩
theorem d0_195 : DAt B0 195 (.iload 9) 2 197 := ⟨at_195, rfl⟩
theorem d0_197 : DAt B0 197 (.goto 4) 3 200 := ⟨at_197, rfl⟩
theorem d0_200 : DAt B0 200 (.iconst 0) 1 201 := ⟨at_200, rfl⟩
theorem d0_201 : DAt B0 201 (.istore 11) 2 203 := ⟨at_201, rfl⟩
theorem d0_203 : DAt B0 203 (.aload 6) 2 205 := ⟨at_203, rfl⟩
theorem d0_205 : DAt B0 205 (.iload 8) 2 207 := ⟨at_205, rfl⟩
theorem d0_207 : DAt B0 207 (.invokevirtual 31) 3 210 := ⟨at_207, rfl⟩
theorem d0_210 : DAt B0 210 (.iload 10) 2 212 := ⟨at_210, rfl⟩
theorem d0_212 : DAt B0 212 (.if_icmp .eq 5) 3 215 := ⟨at_212, rfl⟩
theorem d0_215 : DAt B0 215 (.iconst 0) 1 216 := ⟨at_215, rfl⟩
theorem d0_216 : DAt B0 216 (.ireturn) 1 217 := ⟨at_216, rfl⟩
theorem d0_217 : DAt B0 217 (.aload 6) 2 219 := ⟨at_217, rfl⟩
theorem d0_219 : DAt B0 219 (.iconst 1) 1 220 := ⟨at_219, rfl⟩
theorem d0_220 : DAt B0 220 (.iload 8) 2 222 := ⟨at_220, rfl⟩
theorem d0_222 : DAt B0 222 (.invokevirtual 41) 3 225 := ⟨at_222, rfl⟩
theorem d0_225 : DAt B0 225 (.iload 11) 2 227 := ⟨at_225, rfl⟩
theorem d0_227 : DAt B0 227 (.if_icmp .eq 5) 3 230 := ⟨at_227, rfl⟩
theorem d0_230 : DAt B0 230 (.iconst 0) 1 231 := ⟨at_230, rfl⟩
theorem d0_231 : DAt B0 231 (.ireturn) 1 232 := ⟨at_231, rfl⟩
theorem d0_232 : DAt B0 232 (.aload 6) 2 234 := ⟨at_232, rfl⟩
theorem d0_234 : DAt B0 234 (.iload 8) 2 236 := ⟨at_234, rfl⟩
theorem d0_236 : DAt B0 236 (.invokevirtual 44) 3 239 := ⟨at_236, rfl⟩
theorem d0_239 : DAt B0 239 (.iload 11) 2 241 := ⟨at_239, rfl⟩
theorem d0_241 : DAt B0 241 (.if_icmp .eq 5) 3 244 := ⟨at_241, rfl⟩
theorem d0_244 : DAt B0 244 (.iconst 0) 1 245 := ⟨at_244, rfl⟩
theorem d0_245 : DAt B0 245 (.ireturn) 1 246 := ⟨at_245, rfl⟩
theorem d0_246 : DAt B0 246 (.aload 6) 2 248 := ⟨at_246, rfl⟩
theorem d0_248 : DAt B0 248 (.invokevirtual 47) 3 251 := ⟨at_248, rfl⟩
theorem d0_251 : DAt B0 251 (.ifCond .eq 5) 3 254 := ⟨at_251, rfl⟩
theorem d0_254 : DAt B0 254 (.iconst 0) 1 255 := ⟨at_254, rfl⟩
theorem d0_255 : DAt B0 255 (.ireturn) 1 256 := ⟨at_255, rfl⟩
theorem d0_256 : DAt B0 256 (.aload 6) 2 258 := ⟨at_256, rfl⟩
theorem d0_258 : DAt B0 258 (.iconst 1) 1 259 := ⟨at_258, rfl⟩
theorem d0_259 : DAt B0 259 (.invokevirtual 38) 3 262 := ⟨at_259, rfl⟩
theorem d0_262 : DAt B0 262 (.ifCond .eq 5) 3 265 := ⟨at_262, rfl⟩
theorem d0_265 : DAt B0 265 (.iconst 0) 1 266 := ⟨at_265, rfl⟩
theorem d0_266 : DAt B0 266 (.ireturn) 1 267 := ⟨at_266, rfl⟩
theorem d0_267 : DAt B0 267 (.aload 6) 2 269 := ⟨at_267, rfl⟩
theorem d0_269 : DAt B0 269 (.iload 8) 2 271 := ⟨at_269, rfl⟩
theorem d0_271 : DAt B0 271 (.invokevirtual 31) 3 274 := ⟨at_271, rfl⟩
theorem d0_274 : DAt B0 274 (.iload 10) 2 276 := ⟨at_274, rfl⟩
theorem d0_276 : DAt B0 276 (.if_icmp .eq 5) 3 279 := ⟨at_276, rfl⟩
theorem d0_279 : DAt B0 279 (.iconst 0) 1 280 := ⟨at_279, rfl⟩
theorem d0_280 : DAt B0 280 (.ireturn) 1 281 := ⟨at_280, rfl⟩
theorem d0_281 : DAt B0 281 (.iconst 0) 1 282 := ⟨at_281, rfl⟩
theorem d0_282 : DAt B0 282 (.istore 12) 2 284 := ⟨at_282, rfl⟩
theorem d0_284 : DAt B0 284 (.iload 12) 2 286 := ⟨at_284, rfl⟩
theorem d0_286 : DAt B0 286 (.bipush 8) 2 288 := ⟨at_286, rfl⟩
theorem d0_288 : DAt B0 288 (.if_icmp .ge 72) 3 291 := ⟨at_288, rfl⟩
theorem d0_291 : DAt B0 291 (.iload 12) 2 293 := ⟨at_291, rfl⟩
theorem d0_293 : DAt B0 293 (.iload 8) 2 295 := ⟨at_293, rfl⟩
theorem d0_295 : DAt B0 295 (.if_icmp .ne 8) 3 298 := ⟨at_295, rfl⟩
theorem d0_298 : DAt B0 298 (.iload 10) 2 300 := ⟨at_298, rfl⟩
theorem d0_300 : DAt B0 300 (.goto 16) 3 303 := ⟨at_300, rfl⟩
theorem d0_303 : DAt B0 303 (.iload 12) 2 305 := ⟨at_303, rfl⟩
theorem d0_305 : DAt B0 305 (.iload 7) 2 307 := ⟨at_305, rfl⟩
theorem d0_307 : DAt B0 307 (.if_icmp .ne 8) 3 310 := ⟨at_307, rfl⟩
theorem d0_310 : DAt B0 310 (.iload 9) 2 312 := ⟨at_310, rfl⟩
theorem d0_312 : DAt B0 312 (.goto 4) 3 315 := ⟨at_312, rfl⟩
theorem d0_315 : DAt B0 315 (.iconst 0) 1 316 := ⟨at_315, rfl⟩
theorem d0_316 : DAt B0 316 (.istore 13) 2 318 := ⟨at_316, rfl⟩
theorem d0_318 : DAt B0 318 (.aload 6) 2 320 := ⟨at_318, rfl⟩
theorem d0_320 : DAt B0 320 (.iconst 0) 1 321 := ⟨at_320, rfl⟩
theorem d0_321 : DAt B0 321 (.iload 12) 2 323 := ⟨at_321, rfl⟩
theorem d0_323 : DAt B0 323 (.invokevirtual 41) 3 326 := ⟨at_323, rfl⟩
theorem d0_326 : DAt B0 326 (.istore 14) 2 328 := ⟨at_326, rfl⟩
theorem d0_328 : DAt B0 328 (.aload 6) 2 330 := ⟨at_328, rfl⟩
theorem d0_330 : DAt B0 330 (.iconst 1) 1 331 := ⟨at_330, rfl⟩
theorem d0_331 : DAt B0 331 (.iload 12) 2 333 := ⟨at_331, rfl⟩
theorem d0_333 : DAt B0 333 (.invokevirtual 41) 3 336 := ⟨at_333, rfl⟩
theorem d0_336 : DAt B0 336 (.istore 15) 2 338 := ⟨at_336, rfl⟩
theorem d0_338 : DAt B0 338 (.iload 14) 2 340 := ⟨at_338, rfl⟩
theorem d0_340 : DAt B0 340 (.iload 13) 2 342 := ⟨at_340, rfl⟩
theorem d0_342 : DAt B0 342 (.if_icmp .ne 10) 3 345 := ⟨at_342, rfl⟩
theorem d0_345 : DAt B0 345 (.iload 15) 2 347 := ⟨at_345, rfl⟩
theorem d0_347 : DAt B0 347 (.iload 13) 2 349 := ⟨at_347, rfl⟩
theorem d0_349 : DAt B0 349 (.if_icmp .eq 5) 3 352 := ⟨at_349, rfl⟩
theorem d0_352 : DAt B0 352 (.iconst 0) 1 353 := ⟨at_352, rfl⟩
theorem d0_353 : DAt B0 353 (.ireturn) 1 354 := ⟨at_353, rfl⟩
theorem d0_354 : DAt B0 354 (.iinc 12 1) 3 357 := ⟨at_354, rfl⟩
theorem d0_357 : DAt B0 357 (.goto (-73)) 3 360 := ⟨at_357, rfl⟩
theorem d0_360 : DAt B0 360 (.iconst 1) 1 361 := ⟨at_360, rfl⟩
theorem d0_361 : DAt B0 361 (.ireturn) 1 362 := ⟨at_361, rfl⟩
theorem ar1 : arity B1 3 := ⟨[.int, .int, .int], none, by decide +kernel, rfl⟩
theorem ar2 : arity B2 3 := ⟨[.int, .int, .int], some .int, by decide +kernel, rfl⟩
theorem ar3 : arity B3 2 := ⟨[.int, .int], some .int, by decide +kernel, rfl⟩
theorem ar4 : arity B4 1 := ⟨[.int], some .boolean, by decide +kernel, rfl⟩
theorem ar5 : arity B5 1 := ⟨[.int], none, by decide +kernel, rfl⟩
theorem ar6 : arity B6 0 := ⟨[], some .int, by decide +kernel, rfl⟩
theorem ar7 : arity B7 0 := ⟨[], none, by decide +kernel, rfl⟩
theorem ar8 : arity B8 0 := ⟨[], none, by decide +kernel, rfl⟩
theorem ar9 : arity B9 1 := ⟨[.int], none, by decide +kernel, rfl⟩
theorem ar10 : arity B10 0 := ⟨[], some .boolean, by decide +kernel, rfl⟩
theorem ar11 : arity B11 0 := ⟨[], none, by decide +kernel, rfl⟩
theorem ar12 : arity B12 0 := ⟨[], some .int, by decide +kernel, rfl⟩
theorem ar13 : arity B13 0 := ⟨[], some .int, by decide +kernel, rfl⟩
theorem ar14 : arity B14 0 := ⟨[], some .boolean, by decide +kernel, rfl⟩
theorem ar15 : arity B15 1 := ⟨[.int], some .int, by decide +kernel, rfl⟩
theorem ar16 : arity B16 0 := ⟨[], some .int, by decide +kernel, rfl⟩
theorem ar17 : arity B17 1 := ⟨[.int], some .int, by decide +kernel, rfl⟩
theorem ar18 : arity B18 1 := ⟨[.int], some .boolean, by decide +kernel, rfl⟩
theorem ar19 : arity B19 2 := ⟨[.int, .int], some .int, by decide +kernel, rfl⟩
theorem ar20 : arity B20 1 := ⟨[.int], some .int, by decide +kernel, rfl⟩
theorem ar21 : arity B21 0 := ⟨[], some .int, by decide +kernel, rfl⟩
theorem ar22 : arity B22 0 := ⟨[], some .int, by decide +kernel, rfl⟩
theorem ar23 : arity B23 2 := ⟨[.int, .int], none, by decide +kernel, rfl⟩
theorem ar24 : arity B24 0 := ⟨[], none, by decide +kernel, rfl⟩
theorem cw1 : code_w B1 := ⟨mem1 5 rfl, mem1 2 rfl, by decide⟩
theorem cw2 : code_w B2 := ⟨mem1 25 rfl, mem1 2 rfl, by decide⟩
theorem cw3 : code_w B3 := ⟨mem1 49 rfl, mem1 2 rfl, by decide⟩
theorem cw4 : code_w B4 := ⟨mem1 53 rfl, mem1 2 rfl, by decide⟩
theorem cw5 : code_w B5 := ⟨mem1 58 rfl, mem1 2 rfl, by decide⟩
theorem cw6 : code_w B6 := ⟨mem1 63 rfl, mem1 2 rfl, by decide⟩
theorem cw7 : code_w B7 := ⟨mem1 67 rfl, mem1 2 rfl, by decide⟩
theorem cw8 : code_w B8 := ⟨mem1 71 rfl, mem1 2 rfl, by decide⟩
theorem cw9 : code_w B9 := ⟨mem1 75 rfl, mem1 2 rfl, by decide⟩
theorem cw10 : code_w B10 := ⟨mem1 79 rfl, mem1 2 rfl, by decide⟩
theorem cw11 : code_w B11 := ⟨mem1 83 rfl, mem1 2 rfl, by decide⟩
theorem cw12 : code_w B12 := ⟨mem1 88 rfl, mem1 2 rfl, by decide⟩
theorem cw13 : code_w B13 := ⟨mem1 93 rfl, mem1 2 rfl, by decide⟩
theorem cw14 : code_w B14 := ⟨mem1 98 rfl, mem1 2 rfl, by decide⟩
theorem cw15 : code_w B15 := ⟨mem1 103 rfl, mem1 2 rfl, by decide⟩
theorem cw16 : code_w B16 := ⟨mem1 108 rfl, mem1 2 rfl, by decide⟩
theorem cw17 : code_w B17 := ⟨mem1 113 rfl, mem1 2 rfl, by decide⟩
theorem cw18 : code_w B18 := ⟨mem1 117 rfl, mem1 2 rfl, by decide⟩
theorem cw19 : code_w B19 := ⟨mem1 122 rfl, mem1 2 rfl, by decide⟩
theorem cw20 : code_w B20 := ⟨mem1 127 rfl, mem1 2 rfl, by decide⟩
theorem cw21 : code_w B21 := ⟨mem1 132 rfl, mem1 2 rfl, by decide⟩
theorem cw22 : code_w B22 := ⟨mem1 136 rfl, mem1 2 rfl, by decide⟩
theorem cw23 : code_w B23 := ⟨mem1 140 rfl, mem1 2 rfl, by decide⟩
theorem cw24 : code_w B24 := ⟨mem1 144 rfl, mem1 2 rfl, by decide⟩
theorem rk0_3_0 : room_ok B0 B3 0 := by decide
theorem rk0_6_0 : room_ok B0 B6 0 := by decide
theorem rk0_12_0 : room_ok B0 B12 0 := by decide
theorem rk0_13_0 : room_ok B0 B13 0 := by decide
theorem rk0_14_0 : room_ok B0 B14 0 := by decide
theorem rk0_15_0 : room_ok B0 B15 0 := by decide
theorem rk0_16_0 : room_ok B0 B16 0 := by decide
theorem rk0_17_0 : room_ok B0 B17 0 := by decide
theorem rk0_19_0 : room_ok B0 B19 0 := by decide
theorem rk0_20_0 : room_ok B0 B20 0 := by decide
theorem rk0_21_0 : room_ok B0 B21 0 := by decide
theorem rk1_2_1 : room_ok B1 B2 1 := by decide
theorem rk3_4_0 : room_ok B3 B4 0 := by decide
theorem rk3_5_0 : room_ok B3 B5 0 := by decide
theorem rk6_7_0 : room_ok B6 B7 0 := by decide
theorem rk7_8_0 : room_ok B7 B8 0 := by decide
theorem rk7_9_0 : room_ok B7 B9 0 := by decide
theorem rk7_10_0 : room_ok B7 B10 0 := by decide
theorem rk7_11_0 : room_ok B7 B11 0 := by decide
theorem rk12_8_0 : room_ok B12 B8 0 := by decide
theorem rk15_4_0 : room_ok B15 B4 0 := by decide
theorem rk17_18_0 : room_ok B17 B18 0 := by decide
theorem rk19_4_0 : room_ok B19 B4 0 := by decide
theorem rk19_18_0 : room_ok B19 B18 0 := by decide
theorem rk20_4_0 : room_ok B20 B4 0 := by decide
theorem rk21_22_0 : room_ok B21 B22 0 := by decide
theorem rk21_23_0 : room_ok B21 B23 0 := by decide
theorem rk21_24_0 : room_ok B21 B24 0 := by decide
def X_clamp (i0 : Int32) (i1 : Int32) (i2 : Int32) : Option (Int32) :=
  if i0 < i1 then
    some i1
  else
    if i2 < i0 then
      some i2
    else
      some i0
set_option maxRecDepth 65536 in
set_option maxHeartbeats 4000000 in
theorem X_clamp_p {C : Ctx} {G : AH} {res : Int32} (i0 : Int32) (i1 : Int32) (i2 : Int32) (hf : X_clamp i0 i1 i2 = some res) : Runs C B2 0 0 0 [vi i0, vi i1, vi i2] [] G (Ans (some (.int res)) G) := by
  delta X_clamp at hf
  refine Runs.iloadN d2_0 rfl <| Runs.iloadN d2_1 rfl <| ?_
  refine ite_el hf (fun hc1 hf => ?_) (fun hc1 hf => ?_)
  · refine Runs.icN d2_2 (tlt hc1).2.1 <| ?_
    obtain rfl := Option.some.inj hf
    exact Runs.iloadN d2_5 rfl <| Runs.retI d2_6 rfl ⟨by decide, by decide⟩ ⟨rfl, rfl⟩
  · refine Runs.icY (pc' := 7) d2_2 (flt hc1).2.1 (by decide) <| ?_
    refine Runs.iloadN d2_7 rfl <| Runs.iloadN d2_8 rfl <| ?_
    refine ite_el hf (fun hc2 hf => ?_) (fun hc2 hf => ?_)
    · refine Runs.icN d2_9 (tlt hc2).2.2.2 <| ?_
      obtain rfl := Option.some.inj hf
      exact Runs.iloadN d2_12 rfl <| Runs.retI d2_13 rfl ⟨by decide, by decide⟩ ⟨rfl, rfl⟩
    · refine Runs.icY (pc' := 14) d2_9 (flt hc2).2.2.2 (by decide) <| ?_
      obtain rfl := Option.some.inj hf
      exact Runs.iloadN d2_14 rfl <| Runs.retI d2_15 rfl ⟨by decide, by decide⟩ ⟨rfl, rfl⟩
theorem X_clamp_pay {C : Ctx} {G : AH} {res : Int32} {i0 : Int32} {i1 : Int32} {i2 : Int32} (hf : X_clamp i0 i1 i2 = some res) : Pays C B2 [.int i0, .int i1, .int i2] G (Ans (some (.int res)) G) :=
  Pays.of pnK (Nat.le_of_ble_eq_true rfl) (P := [vi i0, vi i1, vi i2]) 0 rfl (X_clamp_p i0 i1 i2 hf)
def X_init (i1 : Int32) (i2 : Int32) (i3 : Int32) : Option (Rec) :=
  (X_clamp i1 (8 : Int32) (32 : Int32)).bind fun r1 =>
  (X_clamp i2 (1 : Int32) (4 : Int32)).bind fun r3 =>
  (X_clamp i3 (0 : Int32) (4 : Int32)).bind fun r5 =>
  dvz r3 <|
  chk (2 : Int32) (0 : Int32) <|
  chk (2 : Int32) (1 : Int32) <|
  some (sI (sI (sI (sI (sI (sA (sA (sI (sI (sI (sI zrec 0 r1) 1 r3) 2 r5) 3 (((r1 + r3) - (1 : Int32)) / r3)) 2 (0 : Int32) (0 : Int32)) 2 (1 : Int32) (0 : Int32)) 4 (0 : Int32)) 5 (0 : Int32)) 6 (-1 : Int32)) 7 (0 : Int32)) 8 (-1 : Int32))
set_option maxRecDepth 65536 in
set_option maxHeartbeats 4000000 in
theorem X_init_p {C : Ctx} {a : Nat} {H : List (Nat × Nat × Rec)} {res : Rec} (i1 : Int32) (i2 : Int32) (i3 : Int32) (hf : X_init i1 i2 i3 = some res) : Runs C B1 0 0 0 [vr a, vi i1, vi i2, vi i3] [] (a + 1, (a, 0, zrec) :: H) (Ans none (a + 1 + 6, (a, 6, res) :: H)) := by
  delta X_init at hf
  refine Runs.aloadN d1_0 rfl <| Runs.initO (W := 0) d1_1 w6 w7 w8 rfl (by decide) <| Runs.aloadN d1_4 rfl <| Runs.bipush d1_5 cb_64 <| Runs.newArr (j' := 1) (top' := a + 1 + 1) (k' := 1) (n' := 64) d1_7 d1_9 fA_0 w10 rfl w9 (Or.inl w11) rfl (by decide) ⟨by decide, by decide⟩ ⟨fun _ => rfl, fun _ => rfl⟩ rfl rfl rfl (by decide) <| Runs.aloadN d1_12 rfl <| Runs.bipush d1_13 cb_32 <| Runs.newArr (j' := 2) (top' := a + 1 + 2) (k' := 2) (n' := 96) d1_15 d1_17 fA_1 w12 rfl w9 (Or.inl w13) rfl (by decide) ⟨by decide, by decide⟩ ⟨fun _ => rfl, fun _ => rfl⟩ rfl rfl rfl (by decide) <| Runs.aloadN d1_20 rfl <| Runs.iconst d1_21 ci_2 <| Runs.newArr (j' := 3) (top' := a + 1 + 3) (k' := 3) (n' := 98) d1_22 d1_24 fA_2 w14 rfl w9 (Or.inl w15) rfl (by decide) ⟨by decide, by decide⟩ ⟨fun _ => rfl, fun _ => rfl⟩ rfl rfl rfl (by decide) <| Runs.aloadN d1_27 rfl <| ?_
  refine Runs.bipush d1_28 cb_32 <| Runs.newArr (j' := 4) (top' := a + 1 + 4) (k' := 4) (n' := 130) d1_30 d1_32 fA_3 w17 rfl w16 (Or.inl w18) rfl (by decide) ⟨by decide, by decide⟩ ⟨fun _ => rfl, fun _ => rfl⟩ rfl rfl rfl (by decide) <| Runs.aloadN d1_35 rfl <| Runs.bipush d1_36 cb_32 <| Runs.newArr (j' := 5) (top' := a + 1 + 5) (k' := 5) (n' := 162) d1_38 d1_40 fA_4 w19 rfl w16 (Or.inl w20) rfl (by decide) ⟨by decide, by decide⟩ ⟨fun _ => rfl, fun _ => rfl⟩ rfl rfl rfl (by decide) <| Runs.aloadN d1_43 rfl <| Runs.bipush d1_44 cb_32 <| Runs.newArr (j' := 6) (top' := a + 1 + 6) (k' := 6) (n' := 194) d1_46 d1_48 fA_5 w21 rfl w9 (Or.inl w22) rfl (by decide) ⟨by decide, by decide⟩ ⟨fun _ => rfl, fun _ => rfl⟩ rfl rfl rfl (by decide) <| Runs.aloadN d1_51 rfl <| Runs.iloadN d1_52 rfl <| Runs.bipush d1_53 cb_8 <| Runs.bipush d1_55 cb_32 <| ?_
  refine bind_el hf fun r1 hg2 hf => ?_
  refine Runs.callS (N := B2) (W := 1) (as := [.int i1, .int (8 : Int32), .int (32 : Int32)]) (S' := [.ref a]) d1_57 w23 w24 cw2 ar2 rk1_2_1 (by decide) rfl rfl (X_clamp_pay hg2) <| ans1 <| Runs.putI d1_60 w26 fS_0 (Or.inl w27) <| Runs.aloadN d1_63 rfl <| Runs.iloadN d1_64 rfl <| Runs.iconst d1_65 ci_1 <| Runs.iconst d1_66 ci_4 <| ?_
  refine bind_el hf fun r3 hg4 hf => ?_
  refine Runs.callS (N := B2) (W := 1) (as := [.int i2, .int (1 : Int32), .int (4 : Int32)]) (S' := [.ref a]) d1_67 w23 w24 cw2 ar2 rk1_2_1 (by decide) rfl rfl (X_clamp_pay hg4) <| ans1 <| Runs.putI d1_70 w28 fS_1 (Or.inl w29) <| Runs.aloadN d1_73 rfl <| Runs.iloadN d1_74 rfl <| Runs.iconst d1_75 ci_0 <| Runs.iconst d1_76 ci_4 <| ?_
  refine bind_el hf fun r5 hg6 hf => ?_
  refine Runs.callS (N := B2) (W := 1) (as := [.int i3, .int (0 : Int32), .int (4 : Int32)]) (S' := [.ref a]) d1_77 w23 w24 cw2 ar2 rk1_2_1 (by decide) rfl rfl (X_clamp_pay hg6) <| ans1 <| Runs.putI d1_80 w30 fS_2 (Or.inl w31) <| Runs.aloadN d1_83 rfl <| Runs.aloadN d1_84 rfl <| Runs.getI d1_85 w26 fS_0 <| Runs.aloadN d1_88 rfl <| Runs.getI d1_89 w28 fS_1 <| Runs.iadd d1_92 <| Runs.iconst d1_93 ci_1 <| Runs.isub d1_94 <| Runs.aloadN d1_95 rfl <| Runs.getI d1_96 w28 fS_1 <| ?_
  refine dvz_el hf fun hz7 hf => ?_
  refine Runs.idiv d1_99 hz7 <| Runs.putI d1_100 w32 fS_3 (Or.inl w33) <| Runs.aloadN d1_103 rfl <| Runs.getA d1_104 fA_2 w14 (by decide) <| Runs.iconst d1_107 ci_0 <| Runs.iconst d1_108 ci_0 <| ?_
  refine chk_el hf fun hi8 hf => ?_
  refine Runs.iastoreA d1_109 fA_2 (by decide) hi8 <| Runs.aloadN d1_110 rfl <| Runs.getA d1_111 fA_2 w14 (by decide) <| Runs.iconst d1_114 ci_1 <| Runs.iconst d1_115 ci_0 <| ?_
  refine chk_el hf fun hi9 hf => ?_
  refine Runs.iastoreA d1_116 fA_2 (by decide) hi9 <| Runs.aloadN d1_117 rfl <| Runs.iconst d1_118 ci_0 <| Runs.putZ (y := (0 : Int32)) d1_119 w34 fS_4 (Or.inl w35) rfl <| Runs.aloadN d1_122 rfl <| Runs.iconst d1_123 ci_0 <| Runs.putZ (y := (0 : Int32)) d1_124 w36 fS_5 (Or.inl w37) rfl <| Runs.aloadN d1_127 rfl <| Runs.iconst d1_128 ci_m1 <| Runs.putI d1_129 w38 fS_6 (Or.inl w39) <| Runs.aloadN d1_132 rfl <| Runs.iconst d1_133 ci_0 <| ?_
  obtain rfl := Option.some.inj hf
  exact Runs.putI d1_134 w40 fS_7 (Or.inl w41) <| Runs.aloadN d1_137 rfl <| Runs.iconst d1_138 ci_m1 <| Runs.putI d1_139 w42 fS_8 (Or.inl w43) <| Runs.retV d1_142 rfl ⟨by decide, by decide⟩ ⟨rfl, rfl⟩
theorem X_init_pay {C : Ctx} {a : Nat} {H : List (Nat × Nat × Rec)} {res : Rec} {i1 : Int32} {i2 : Int32} {i3 : Int32} (hf : X_init i1 i2 i3 = some res) : Pays C B1 [.ref a, .int i1, .int i2, .int i3] (a + 1, (a, 0, zrec) :: H) (Ans none (a + 1 + 6, (a, 6, res) :: H)) :=
  Pays.of pnK (Nat.le_of_ble_eq_true rfl) (P := [vr a, vi i1, vi i2, vi i3]) 0 rfl (X_init_p i1 i2 i3 hf)
def X_validBlock (ob : Rec) (i1 : Int32) : Option (Int32) :=
  if i1 < (0 : Int32) then
    some (0 : Int32)
  else
    if i1 < (gI ob 0) then
      some (1 : Int32)
    else
      some (0 : Int32)
set_option maxRecDepth 65536 in
set_option maxHeartbeats 4000000 in
theorem X_validBlock_p {C : Ctx} {top : Nat} {a : Nat} {H : List (Nat × Nat × Rec)} {ob : Rec} {res : Int32} (i1 : Int32) (hf : X_validBlock ob i1 = some res) : Runs C B4 0 0 0 [vr a, vi i1] [] (top, (a, 6, ob) :: H) (Ans (some (.int res)) (top, (a, 6, ob) :: H)) := by
  delta X_validBlock at hf
  refine Runs.iloadN d4_0 rfl <| ?_
  refine ite_el hf (fun hc1 hf => ?_) (fun hc1 hf => ?_)
  · refine Runs.ifY (pc' := 16) d4_1 (tlt hc1).1 (by decide) <| ?_
    obtain rfl := Option.some.inj hf
    exact Runs.iconst d4_16 ci_0 <| Runs.retZ (y := (0 : Int32)) d4_17 rfl ⟨by decide, by decide⟩ rfl ⟨rfl, rfl⟩
  · refine Runs.ifN d4_1 (flt hc1).1 <| ?_
    refine Runs.iloadN d4_4 rfl <| Runs.aloadN d4_5 rfl <| Runs.getI d4_6 w26 fS_0 <| ?_
    refine ite_el hf (fun hc2 hf => ?_) (fun hc2 hf => ?_)
    · refine Runs.icN d4_9 (tlt hc2).2.1 <| ?_
      obtain rfl := Option.some.inj hf
      exact Runs.iconst d4_12 ci_1 <| Runs.goto (pc' := 17) d4_13 (by decide) <| Runs.retZ (y := (1 : Int32)) d4_17 rfl ⟨by decide, by decide⟩ rfl ⟨rfl, rfl⟩
    · refine Runs.icY (pc' := 16) d4_9 (flt hc2).2.1 (by decide) <| ?_
      obtain rfl := Option.some.inj hf
      exact Runs.iconst d4_16 ci_0 <| Runs.retZ (y := (0 : Int32)) d4_17 rfl ⟨by decide, by decide⟩ rfl ⟨rfl, rfl⟩
theorem X_validBlock_pay {C : Ctx} {top : Nat} {a : Nat} {H : List (Nat × Nat × Rec)} {ob : Rec} {res : Int32} {i1 : Int32} (hf : X_validBlock ob i1 = some res) : Pays C B4 [.ref a, .int i1] (top, (a, 6, ob) :: H) (Ans (some (.int res)) (top, (a, 6, ob) :: H)) :=
  Pays.of pnK (Nat.le_of_ble_eq_true rfl) (P := [vr a, vi i1]) 0 rfl (X_validBlock_p i1 hf)
def X_markDirty (ob : Rec) (i1 : Int32) : Option (Rec) :=
  chk (32 : Int32) i1 <|
  chk (32 : Int32) i1 <|
  chk (32 : Int32) i1 <|
  some (sA (sA (sA ob 3 i1 (1 : Int32)) 4 i1 (0 : Int32)) 5 i1 (0 : Int32))
set_option maxRecDepth 65536 in
set_option maxHeartbeats 4000000 in
theorem X_markDirty_p {C : Ctx} {top : Nat} {a : Nat} {H : List (Nat × Nat × Rec)} {res : Rec} (ob : Rec) (i1 : Int32) (hf : X_markDirty ob i1 = some res) : Runs C B5 0 0 0 [vr a, vi i1] [] (top, (a, 6, ob) :: H) (Ans none (top, (a, 6, res) :: H)) := by
  delta X_markDirty at hf
  refine Runs.aloadN d5_0 rfl <| Runs.getA d5_1 fA_3 w17 (by decide) <| Runs.iloadN d5_4 rfl <| Runs.iconst d5_5 ci_1 <| ?_
  refine chk_el hf fun hi1 hf => ?_
  refine Runs.bastoreA (y := (1 : Int32)) d5_6 fA_3 (by decide) hi1 rfl <| Runs.aloadN d5_7 rfl <| Runs.getA d5_8 fA_4 w19 (by decide) <| Runs.iloadN d5_11 rfl <| Runs.iconst d5_12 ci_0 <| ?_
  refine chk_el hf fun hi2 hf => ?_
  refine Runs.bastoreA (y := (0 : Int32)) d5_13 fA_4 (by decide) hi2 rfl <| Runs.aloadN d5_14 rfl <| Runs.getA d5_15 fA_5 w21 (by decide) <| Runs.iloadN d5_18 rfl <| Runs.iconst d5_19 ci_0 <| ?_
  refine chk_el hf fun hi3 hf => ?_
  obtain rfl := Option.some.inj hf
  exact Runs.iastoreA d5_20 fA_5 (by decide) hi3 <| Runs.retV d5_21 rfl ⟨by decide, by decide⟩ ⟨rfl, rfl⟩
theorem X_markDirty_pay {C : Ctx} {top : Nat} {a : Nat} {H : List (Nat × Nat × Rec)} {res : Rec} {ob : Rec} {i1 : Int32} (hf : X_markDirty ob i1 = some res) : Pays C B5 [.ref a, .int i1] (top, (a, 6, ob) :: H) (Ans none (top, (a, 6, res) :: H)) :=
  Pays.of pnK (Nat.le_of_ble_eq_true rfl) (P := [vr a, vi i1]) 0 rfl (X_markDirty_p ob i1 hf)
def X_write (ob : Rec) (i1 : Int32) (i2 : Int32) : Option (Int32 × Rec) :=
  if (gI ob 4) = (0 : Int32) then
    (X_validBlock ob i1).bind fun r2 =>
    if r2 = (0 : Int32) then
      some ((-2 : Int32), ob)
    else
      if i2 < (0 : Int32) then
        some ((-2 : Int32), ob)
      else
        if (65535 : Int32) < i2 then
          some ((-2 : Int32), ob)
        else
          if (gI ob 5) = (0 : Int32) then
            dvz (gI ob 1) <|
            (X_markDirty ob (i1 / (gI ob 1))).bind fun q9 =>
            some ((0 : Int32), (sI (sI (sI (sI q9 5 (1 : Int32)) 6 i1) 7 i2) 8 (0 : Int32)))
          else
            some ((-3 : Int32), ob)
  else
    some ((-1 : Int32), ob)
set_option maxRecDepth 65536 in
set_option maxHeartbeats 4000000 in
theorem X_write_p {C : Ctx} {top : Nat} {a : Nat} {H : List (Nat × Nat × Rec)} {res : Int32 × Rec} (ob : Rec) (i1 : Int32) (i2 : Int32) (hf : X_write ob i1 i2 = some res) : Runs C B3 0 0 0 [vr a, vi i1, vi i2] [] (top, (a, 6, ob) :: H) (Ans (some (.int res.1)) (top, (a, 6, res.2) :: H)) := by
  delta X_write at hf
  refine Runs.aloadN d3_0 rfl <| Runs.getI d3_1 w34 fS_4 <| ?_
  refine ite_el hf (fun hc1 hf => ?_) (fun hc1 hf => ?_)
  · refine Runs.ifY (pc' := 9) d3_4 (teq hc1).1 (by decide) <| ?_
    refine Runs.aloadN d3_9 rfl <| Runs.iloadN d3_10 rfl <| ?_
    refine bind_el hf fun r2 hg3 hf => ?_
    refine Runs.callP (N := B4) (W := 0) (as := [.int i1]) (S' := []) d3_11 w50 w51 w52 rfl cw4 ar4 rk3_4_0 (by decide) rfl rfl (X_validBlock_pay hg3) <| ans1 <| ?_
    refine ite_el hf (fun hc4 hf => ?_) (fun hc4 hf => ?_)
    · refine Runs.ifY (pc' := 27) d3_14 (teq hc4).1 (by decide) <| ?_
      obtain rfl := Option.some.inj hf
      exact Runs.bipush d3_27 cb_m2 <| Runs.retI d3_29 rfl ⟨by decide, by decide⟩ ⟨rfl, rfl⟩
    · refine Runs.ifN d3_14 (feq hc4).1 <| ?_
      refine Runs.iloadN d3_17 rfl <| ?_
      refine ite_el hf (fun hc5 hf => ?_) (fun hc5 hf => ?_)
      · refine Runs.ifY (pc' := 27) d3_18 (tlt hc5).1 (by decide) <| ?_
        obtain rfl := Option.some.inj hf
        exact Runs.bipush d3_27 cb_m2 <| Runs.retI d3_29 rfl ⟨by decide, by decide⟩ ⟨rfl, rfl⟩
      · refine Runs.ifN d3_18 (flt hc5).1 <| ?_
        refine Runs.iloadN d3_21 rfl <| Runs.ldc d3_22 w54 <| ?_
        refine ite_el hf (fun hc6 hf => ?_) (fun hc6 hf => ?_)
        · refine Runs.icN d3_24 (tlt hc6).2.2.2 <| ?_
          obtain rfl := Option.some.inj hf
          exact Runs.bipush d3_27 cb_m2 <| Runs.retI d3_29 rfl ⟨by decide, by decide⟩ ⟨rfl, rfl⟩
        · refine Runs.icY (pc' := 30) d3_24 (flt hc6).2.2.2 (by decide) <| ?_
          refine Runs.aloadN d3_30 rfl <| Runs.getI d3_31 w36 fS_5 <| ?_
          refine ite_el hf (fun hc7 hf => ?_) (fun hc7 hf => ?_)
          · refine Runs.ifY (pc' := 40) d3_34 (teq hc7).1 (by decide) <| ?_
            refine Runs.aloadN d3_40 rfl <| Runs.iloadN d3_41 rfl <| Runs.aloadN d3_42 rfl <| Runs.getI d3_43 w28 fS_1 <| ?_
            refine dvz_el hf fun hz8 hf => ?_
            refine Runs.idiv d3_46 hz8 <| ?_
            refine bind_el hf fun q9 hg10 hf => ?_
            refine Runs.callP (N := B5) (W := 0) (as := [.int (i1 / (gI ob 1))]) (S' := []) d3_47 w55 w56 w57 rfl cw5 ar5 rk3_5_0 (by decide) rfl rfl (X_markDirty_pay hg10) <| ans0 <| Runs.aloadN d3_50 rfl <| Runs.iconst d3_51 ci_1 <| Runs.putZ (y := (1 : Int32)) d3_52 w36 fS_5 (Or.inl w37) rfl <| Runs.aloadN d3_55 rfl <| Runs.iloadN d3_56 rfl <| Runs.putI d3_57 w38 fS_6 (Or.inl w39) <| Runs.aloadN d3_60 rfl <| Runs.iloadN d3_61 rfl <| Runs.putI d3_62 w40 fS_7 (Or.inl w41) <| Runs.aloadN d3_65 rfl <| Runs.iconst d3_66 ci_0 <| ?_
            obtain rfl := Option.some.inj hf
            exact Runs.putI d3_67 w42 fS_8 (Or.inl w43) <| Runs.iconst d3_70 ci_0 <| Runs.retI d3_71 rfl ⟨by decide, by decide⟩ ⟨rfl, rfl⟩
          · refine Runs.ifN d3_34 (feq hc7).1 <| ?_
            obtain rfl := Option.some.inj hf
            exact Runs.bipush d3_37 cb_m3 <| Runs.retI d3_39 rfl ⟨by decide, by decide⟩ ⟨rfl, rfl⟩
  · refine Runs.ifN d3_4 (feq hc1).1 <| ?_
    obtain rfl := Option.some.inj hf
    exact Runs.iconst d3_7 ci_m1 <| Runs.retI d3_8 rfl ⟨by decide, by decide⟩ ⟨rfl, rfl⟩
theorem X_write_pay {C : Ctx} {top : Nat} {a : Nat} {H : List (Nat × Nat × Rec)} {res : Int32 × Rec} {ob : Rec} {i1 : Int32} {i2 : Int32} (hf : X_write ob i1 i2 = some res) : Pays C B3 [.ref a, .int i1, .int i2] (top, (a, 6, ob) :: H) (Ans (some (.int res.1)) (top, (a, 6, res.2) :: H)) :=
  Pays.of pnK (Nat.le_of_ble_eq_true rfl) (P := [vr a, vi i1, vi i2]) 0 rfl (X_write_p ob i1 i2 hf)
def X_clearPending (ob : Rec) : Option (Rec) :=
  some (sI (sI (sI (sI ob 5 (0 : Int32)) 6 (-1 : Int32)) 7 (0 : Int32)) 8 (-1 : Int32))
set_option maxRecDepth 65536 in
set_option maxHeartbeats 4000000 in
theorem X_clearPending_p {C : Ctx} {top : Nat} {a : Nat} {H : List (Nat × Nat × Rec)} {res : Rec} (ob : Rec) (hf : X_clearPending ob = some res) : Runs C B8 0 0 0 [vr a] [] (top, (a, 6, ob) :: H) (Ans none (top, (a, 6, res) :: H)) := by
  delta X_clearPending at hf
  refine Runs.aloadN d8_0 rfl <| Runs.iconst d8_1 ci_0 <| Runs.putZ (y := (0 : Int32)) d8_2 w36 fS_5 (Or.inl w37) rfl <| Runs.aloadN d8_5 rfl <| Runs.iconst d8_6 ci_m1 <| Runs.putI d8_7 w38 fS_6 (Or.inl w39) <| Runs.aloadN d8_10 rfl <| Runs.iconst d8_11 ci_0 <| Runs.putI d8_12 w40 fS_7 (Or.inl w41) <| Runs.aloadN d8_15 rfl <| Runs.iconst d8_16 ci_m1 <| Runs.putI d8_17 w42 fS_8 (Or.inl w43) <| ?_
  obtain rfl := Option.some.inj hf
  exact Runs.retV d8_20 rfl ⟨by decide, by decide⟩ ⟨rfl, rfl⟩
theorem X_clearPending_pay {C : Ctx} {top : Nat} {a : Nat} {H : List (Nat × Nat × Rec)} {res : Rec} {ob : Rec} (hf : X_clearPending ob = some res) : Pays C B8 [.ref a] (top, (a, 6, ob) :: H) (Ans none (top, (a, 6, res) :: H)) :=
  Pays.of pnK (Nat.le_of_ble_eq_true rfl) (P := [vr a]) 0 rfl (X_clearPending_p ob hf)
def X_ageOthers_w2 (NF : Nat) (k2 : Rec → Int32 → Int32 → Option (Rec)) (ob : Rec) (i1 : Int32) (i2 : Int32) : Option (Rec) :=
  if i2 < (gI ob 3) then
    if i2 = i1 then
      k2 ob i1 (i2 + (1 : Int32))
    else
      chk (32 : Int32) i2 <|
      if (gA ob 4 i2) = (0 : Int32) then
        k2 ob i1 (i2 + (1 : Int32))
      else
        chk (32 : Int32) i2 <|
        if (gA ob 5 i2) < (gI ob 2) then
          chk (32 : Int32) i2 <|
          chk (32 : Int32) i2 <|
          k2 (sA ob 5 i2 ((gA ob 5 i2) + (1 : Int32))) i1 (i2 + (1 : Int32))
        else
          k2 ob i1 (i2 + (1 : Int32))
  else
    some ob
def X_ageOthers_l2 (NF : Nat) : Nat → Rec → Int32 → Int32 → Option (Rec)
  | 0, _, _, _ => none
  | n + 1, ob, i1, i2 => X_ageOthers_w2 NF (X_ageOthers_l2 NF n) ob i1 i2
set_option maxRecDepth 65536 in
set_option maxHeartbeats 4000000 in
theorem X_ageOthers_w2_p {C : Ctx} {top : Nat} {a : Nat} {H : List (Nat × Nat × Rec)} {res : Rec} {NF : Nat} (k2 : Rec → Int32 → Int32 → Option (Rec)) (hk2 : ∀ (ob : Rec) (i1 : Int32) (i2 : Int32), k2 ob i1 i2 = some res → Runs C B9 0 0 2 [vr a, vi i1, vi i2] [] (top, (a, 6, ob) :: H) (Ans none (top, (a, 6, res) :: H))) (ob : Rec) (i1 : Int32) (i2 : Int32) (hf : X_ageOthers_w2 NF k2 ob i1 i2 = some res) : Runs C B9 0 0 2 [vr a, vi i1, vi i2] [] (top, (a, 6, ob) :: H) (Ans none (top, (a, 6, res) :: H)) := by
  delta X_ageOthers_w2 at hf
  refine Runs.iloadN d9_2 rfl <| Runs.aloadN d9_3 rfl <| Runs.getI d9_4 w32 fS_3 <| ?_
  refine ite_el hf (fun hc1 hf => ?_) (fun hc1 hf => ?_)
  · refine Runs.icN d9_7 (tlt hc1).2.1 <| ?_
    refine Runs.iloadN d9_10 rfl <| Runs.iloadN d9_11 rfl <| ?_
    refine ite_el hf (fun hc2 hf => ?_) (fun hc2 hf => ?_)
    · refine Runs.icY (pc' := 47) d9_12 (teq hc2).1 (by decide) <| ?_
      exact Runs.iinc (P' := [vr a, vi i1, vi (i2 + (1 : Int32))]) d9_47 ci_1 rfl (by decide) rfl <| Runs.goto (pc' := 2) d9_50 (by decide) <| hk2 ob i1 (i2 + (1 : Int32)) hf
    · refine Runs.icN d9_12 (feq hc2).1 <| ?_
      refine Runs.aloadN d9_15 rfl <| Runs.getA d9_16 fA_4 w19 (by decide) <| Runs.iloadN d9_19 rfl <| ?_
      refine chk_el hf fun hi3 hf => ?_
      refine Runs.baloadA d9_20 fA_4 (by decide) hi3 <| ?_
      refine ite_el hf (fun hc4 hf => ?_) (fun hc4 hf => ?_)
      · refine Runs.ifY (pc' := 47) d9_21 (teq hc4).1 (by decide) <| ?_
        exact Runs.iinc (P' := [vr a, vi i1, vi (i2 + (1 : Int32))]) d9_47 ci_1 rfl (by decide) rfl <| Runs.goto (pc' := 2) d9_50 (by decide) <| hk2 ob i1 (i2 + (1 : Int32)) hf
      · refine Runs.ifN d9_21 (feq hc4).1 <| ?_
        refine Runs.aloadN d9_24 rfl <| Runs.getA d9_25 fA_5 w21 (by decide) <| Runs.iloadN d9_28 rfl <| ?_
        refine chk_el hf fun hi5 hf => ?_
        refine Runs.ialoadA d9_29 fA_5 (by decide) hi5 <| Runs.aloadN d9_30 rfl <| Runs.getI d9_31 w30 fS_2 <| ?_
        refine ite_el hf (fun hc6 hf => ?_) (fun hc6 hf => ?_)
        · refine Runs.icN d9_34 (tlt hc6).2.1 <| ?_
          refine Runs.aloadN d9_37 rfl <| Runs.getA d9_38 fA_5 w21 (by decide) <| Runs.iloadN d9_41 rfl <| Runs.dup2 d9_42 rfl rfl <| ?_
          refine chk_el hf fun hi7 hf => ?_
          refine Runs.ialoadA d9_43 fA_5 (by decide) hi7 <| Runs.iconst d9_44 ci_1 <| Runs.iadd d9_45 <| ?_
          refine chk_el hf fun hi8 hf => ?_
          exact Runs.iastoreA d9_46 fA_5 (by decide) hi8 <| Runs.iinc (P' := [vr a, vi i1, vi (i2 + (1 : Int32))]) d9_47 ci_1 rfl (by decide) rfl <| Runs.goto (pc' := 2) d9_50 (by decide) <| hk2 (sA ob 5 i2 ((gA ob 5 i2) + (1 : Int32))) i1 (i2 + (1 : Int32)) hf
        · refine Runs.icY (pc' := 47) d9_34 (flt hc6).2.1 (by decide) <| ?_
          exact Runs.iinc (P' := [vr a, vi i1, vi (i2 + (1 : Int32))]) d9_47 ci_1 rfl (by decide) rfl <| Runs.goto (pc' := 2) d9_50 (by decide) <| hk2 ob i1 (i2 + (1 : Int32)) hf
  · refine Runs.icY (pc' := 53) d9_7 (flt hc1).2.1 (by decide) <| ?_
    obtain rfl := Option.some.inj hf
    exact Runs.retV d9_53 rfl ⟨by decide, by decide⟩ ⟨rfl, rfl⟩
theorem X_ageOthers_l2_p {C : Ctx} {top : Nat} {a : Nat} {H : List (Nat × Nat × Rec)} {res : Rec} {NF : Nat} (n : Nat) (ob : Rec) (i1 : Int32) (i2 : Int32) (hf : X_ageOthers_l2 NF n ob i1 i2 = some res) : Runs C B9 0 0 2 [vr a, vi i1, vi i2] [] (top, (a, 6, ob) :: H) (Ans none (top, (a, 6, res) :: H)) := by
  induction n generalizing ob i1 i2 with
  | zero => cases (show (none : Option (Rec)) = some res from hf)
  | succ n ih => exact X_ageOthers_w2_p (X_ageOthers_l2 NF n) (fun ob i1 i2 h => ih _ _ _ h) ob i1 i2 hf
def X_ageOthers (NF : Nat) (ob : Rec) (i1 : Int32) : Option (Rec) :=
  X_ageOthers_l2 NF NF ob i1 (0 : Int32)
set_option maxRecDepth 65536 in
set_option maxHeartbeats 4000000 in
theorem X_ageOthers_p {C : Ctx} {top : Nat} {a : Nat} {H : List (Nat × Nat × Rec)} {res : Rec} {NF : Nat} (ob : Rec) (i1 : Int32) (hf : X_ageOthers NF ob i1 = some res) : Runs C B9 0 0 0 [vr a, vi i1, vn] [] (top, (a, 6, ob) :: H) (Ans none (top, (a, 6, res) :: H)) := by
  delta X_ageOthers at hf
  exact Runs.iconst d9_0 ci_0 <| Runs.istoreN (P' := [vr a, vi i1, vi (0 : Int32)]) d9_1 (by decide) rfl <| X_ageOthers_l2_p NF ob i1 (0 : Int32) hf
theorem X_ageOthers_pay {C : Ctx} {top : Nat} {a : Nat} {H : List (Nat × Nat × Rec)} {res : Rec} {NF : Nat} {ob : Rec} {i1 : Int32} (hf : X_ageOthers NF ob i1 = some res) : Pays C B9 [.ref a, .int i1] (top, (a, 6, ob) :: H) (Ans none (top, (a, 6, res) :: H)) :=
  Pays.of pnK (Nat.le_of_ble_eq_true rfl) (P := [vr a, vi i1, vn]) 1 rfl (X_ageOthers_p ob i1 hf)
def X_bothActive (ob : Rec) : Option (Int32) :=
  chk (2 : Int32) (0 : Int32) <|
  if (gA ob 2 (0 : Int32)) = (0 : Int32) then
    chk (2 : Int32) (1 : Int32) <|
    if (gA ob 2 (1 : Int32)) = (0 : Int32) then
      some (1 : Int32)
    else
      some (0 : Int32)
  else
    some (0 : Int32)
set_option maxRecDepth 65536 in
set_option maxHeartbeats 4000000 in
theorem X_bothActive_p {C : Ctx} {top : Nat} {a : Nat} {H : List (Nat × Nat × Rec)} {ob : Rec} {res : Int32} (hf : X_bothActive ob = some res) : Runs C B10 0 0 0 [vr a] [] (top, (a, 6, ob) :: H) (Ans (some (.int res)) (top, (a, 6, ob) :: H)) := by
  delta X_bothActive at hf
  refine Runs.aloadN d10_0 rfl <| Runs.getA d10_1 fA_2 w14 (by decide) <| Runs.iconst d10_4 ci_0 <| ?_
  refine chk_el hf fun hi1 hf => ?_
  refine Runs.ialoadA d10_5 fA_2 (by decide) hi1 <| ?_
  refine ite_el hf (fun hc2 hf => ?_) (fun hc2 hf => ?_)
  · refine Runs.ifN d10_6 (teq hc2).2 <| ?_
    refine Runs.aloadN d10_9 rfl <| Runs.getA d10_10 fA_2 w14 (by decide) <| Runs.iconst d10_13 ci_1 <| ?_
    refine chk_el hf fun hi3 hf => ?_
    refine Runs.ialoadA d10_14 fA_2 (by decide) hi3 <| ?_
    refine ite_el hf (fun hc4 hf => ?_) (fun hc4 hf => ?_)
    · refine Runs.ifN d10_15 (teq hc4).2 <| ?_
      obtain rfl := Option.some.inj hf
      exact Runs.iconst d10_18 ci_1 <| Runs.goto (pc' := 23) d10_19 (by decide) <| Runs.retZ (y := (1 : Int32)) d10_23 rfl ⟨by decide, by decide⟩ rfl ⟨rfl, rfl⟩
    · refine Runs.ifY (pc' := 22) d10_15 (feq hc4).2 (by decide) <| ?_
      obtain rfl := Option.some.inj hf
      exact Runs.iconst d10_22 ci_0 <| Runs.retZ (y := (0 : Int32)) d10_23 rfl ⟨by decide, by decide⟩ rfl ⟨rfl, rfl⟩
  · refine Runs.ifY (pc' := 22) d10_6 (feq hc2).2 (by decide) <| ?_
    obtain rfl := Option.some.inj hf
    exact Runs.iconst d10_22 ci_0 <| Runs.retZ (y := (0 : Int32)) d10_23 rfl ⟨by decide, by decide⟩ rfl ⟨rfl, rfl⟩
theorem X_bothActive_pay {C : Ctx} {top : Nat} {a : Nat} {H : List (Nat × Nat × Rec)} {ob : Rec} {res : Int32} (hf : X_bothActive ob = some res) : Pays C B10 [.ref a] (top, (a, 6, ob) :: H) (Ans (some (.int res)) (top, (a, 6, ob) :: H)) :=
  Pays.of pnK (Nat.le_of_ble_eq_true rfl) (P := [vr a]) 0 rfl (X_bothActive_p hf)
def X_clearAged_w2 (NF : Nat) (k2 : Rec → Int32 → Option (Rec)) (ob : Rec) (i1 : Int32) : Option (Rec) :=
  if i1 < (gI ob 3) then
    chk (32 : Int32) i1 <|
    if (gA ob 3 i1) = (0 : Int32) then
      k2 ob (i1 + (1 : Int32))
    else
      chk (32 : Int32) i1 <|
      if (gA ob 4 i1) = (0 : Int32) then
        k2 ob (i1 + (1 : Int32))
      else
        chk (32 : Int32) i1 <|
        if (gA ob 5 i1) < (gI ob 2) then
          k2 ob (i1 + (1 : Int32))
        else
          chk (32 : Int32) i1 <|
          chk (32 : Int32) i1 <|
          chk (32 : Int32) i1 <|
          k2 (sA (sA (sA ob 3 i1 (0 : Int32)) 4 i1 (0 : Int32)) 5 i1 (0 : Int32)) (i1 + (1 : Int32))
  else
    some ob
def X_clearAged_l2 (NF : Nat) : Nat → Rec → Int32 → Option (Rec)
  | 0, _, _ => none
  | n + 1, ob, i1 => X_clearAged_w2 NF (X_clearAged_l2 NF n) ob i1
set_option maxRecDepth 65536 in
set_option maxHeartbeats 4000000 in
theorem X_clearAged_w2_p {C : Ctx} {top : Nat} {a : Nat} {H : List (Nat × Nat × Rec)} {res : Rec} {NF : Nat} (k2 : Rec → Int32 → Option (Rec)) (hk2 : ∀ (ob : Rec) (i1 : Int32), k2 ob i1 = some res → Runs C B11 0 0 2 [vr a, vi i1] [] (top, (a, 6, ob) :: H) (Ans none (top, (a, 6, res) :: H))) (ob : Rec) (i1 : Int32) (hf : X_clearAged_w2 NF k2 ob i1 = some res) : Runs C B11 0 0 2 [vr a, vi i1] [] (top, (a, 6, ob) :: H) (Ans none (top, (a, 6, res) :: H)) := by
  delta X_clearAged_w2 at hf
  refine Runs.iloadN d11_2 rfl <| Runs.aloadN d11_3 rfl <| Runs.getI d11_4 w32 fS_3 <| ?_
  refine ite_el hf (fun hc1 hf => ?_) (fun hc1 hf => ?_)
  · refine Runs.icN d11_7 (tlt hc1).2.1 <| ?_
    refine Runs.aloadN d11_10 rfl <| Runs.getA d11_11 fA_3 w17 (by decide) <| Runs.iloadN d11_14 rfl <| ?_
    refine chk_el hf fun hi2 hf => ?_
    refine Runs.baloadA d11_15 fA_3 (by decide) hi2 <| ?_
    refine ite_el hf (fun hc3 hf => ?_) (fun hc3 hf => ?_)
    · refine Runs.ifY (pc' := 62) d11_16 (teq hc3).1 (by decide) <| ?_
      exact Runs.iinc (P' := [vr a, vi (i1 + (1 : Int32))]) d11_62 ci_1 rfl (by decide) rfl <| Runs.goto (pc' := 2) d11_65 (by decide) <| hk2 ob (i1 + (1 : Int32)) hf
    · refine Runs.ifN d11_16 (feq hc3).1 <| ?_
      refine Runs.aloadN d11_19 rfl <| Runs.getA d11_20 fA_4 w19 (by decide) <| Runs.iloadN d11_23 rfl <| ?_
      refine chk_el hf fun hi4 hf => ?_
      refine Runs.baloadA d11_24 fA_4 (by decide) hi4 <| ?_
      refine ite_el hf (fun hc5 hf => ?_) (fun hc5 hf => ?_)
      · refine Runs.ifY (pc' := 62) d11_25 (teq hc5).1 (by decide) <| ?_
        exact Runs.iinc (P' := [vr a, vi (i1 + (1 : Int32))]) d11_62 ci_1 rfl (by decide) rfl <| Runs.goto (pc' := 2) d11_65 (by decide) <| hk2 ob (i1 + (1 : Int32)) hf
      · refine Runs.ifN d11_25 (feq hc5).1 <| ?_
        refine Runs.aloadN d11_28 rfl <| Runs.getA d11_29 fA_5 w21 (by decide) <| Runs.iloadN d11_32 rfl <| ?_
        refine chk_el hf fun hi6 hf => ?_
        refine Runs.ialoadA d11_33 fA_5 (by decide) hi6 <| Runs.aloadN d11_34 rfl <| Runs.getI d11_35 w30 fS_2 <| ?_
        refine ite_el hf (fun hc7 hf => ?_) (fun hc7 hf => ?_)
        · refine Runs.icY (pc' := 62) d11_38 (tlt hc7).1 (by decide) <| ?_
          exact Runs.iinc (P' := [vr a, vi (i1 + (1 : Int32))]) d11_62 ci_1 rfl (by decide) rfl <| Runs.goto (pc' := 2) d11_65 (by decide) <| hk2 ob (i1 + (1 : Int32)) hf
        · refine Runs.icN d11_38 (flt hc7).1 <| ?_
          refine Runs.aloadN d11_41 rfl <| Runs.getA d11_42 fA_3 w17 (by decide) <| Runs.iloadN d11_45 rfl <| Runs.iconst d11_46 ci_0 <| ?_
          refine chk_el hf fun hi8 hf => ?_
          refine Runs.bastoreA (y := (0 : Int32)) d11_47 fA_3 (by decide) hi8 rfl <| Runs.aloadN d11_48 rfl <| Runs.getA d11_49 fA_4 w19 (by decide) <| Runs.iloadN d11_52 rfl <| Runs.iconst d11_53 ci_0 <| ?_
          refine chk_el hf fun hi9 hf => ?_
          refine Runs.bastoreA (y := (0 : Int32)) d11_54 fA_4 (by decide) hi9 rfl <| Runs.aloadN d11_55 rfl <| Runs.getA d11_56 fA_5 w21 (by decide) <| Runs.iloadN d11_59 rfl <| Runs.iconst d11_60 ci_0 <| ?_
          refine chk_el hf fun hi10 hf => ?_
          exact Runs.iastoreA d11_61 fA_5 (by decide) hi10 <| Runs.iinc (P' := [vr a, vi (i1 + (1 : Int32))]) d11_62 ci_1 rfl (by decide) rfl <| Runs.goto (pc' := 2) d11_65 (by decide) <| hk2 (sA (sA (sA ob 3 i1 (0 : Int32)) 4 i1 (0 : Int32)) 5 i1 (0 : Int32)) (i1 + (1 : Int32)) hf
  · refine Runs.icY (pc' := 68) d11_7 (flt hc1).2.1 (by decide) <| ?_
    obtain rfl := Option.some.inj hf
    exact Runs.retV d11_68 rfl ⟨by decide, by decide⟩ ⟨rfl, rfl⟩
theorem X_clearAged_l2_p {C : Ctx} {top : Nat} {a : Nat} {H : List (Nat × Nat × Rec)} {res : Rec} {NF : Nat} (n : Nat) (ob : Rec) (i1 : Int32) (hf : X_clearAged_l2 NF n ob i1 = some res) : Runs C B11 0 0 2 [vr a, vi i1] [] (top, (a, 6, ob) :: H) (Ans none (top, (a, 6, res) :: H)) := by
  induction n generalizing ob i1 with
  | zero => cases (show (none : Option (Rec)) = some res from hf)
  | succ n ih => exact X_clearAged_w2_p (X_clearAged_l2 NF n) (fun ob i1 h => ih _ _ h) ob i1 hf
def X_clearAged (NF : Nat) (ob : Rec) : Option (Rec) :=
  X_clearAged_l2 NF NF ob (0 : Int32)
set_option maxRecDepth 65536 in
set_option maxHeartbeats 4000000 in
theorem X_clearAged_p {C : Ctx} {top : Nat} {a : Nat} {H : List (Nat × Nat × Rec)} {res : Rec} {NF : Nat} (ob : Rec) (hf : X_clearAged NF ob = some res) : Runs C B11 0 0 0 [vr a, vn] [] (top, (a, 6, ob) :: H) (Ans none (top, (a, 6, res) :: H)) := by
  delta X_clearAged at hf
  exact Runs.iconst d11_0 ci_0 <| Runs.istoreN (P' := [vr a, vi (0 : Int32)]) d11_1 (by decide) rfl <| X_clearAged_l2_p NF ob (0 : Int32) hf
theorem X_clearAged_pay {C : Ctx} {top : Nat} {a : Nat} {H : List (Nat × Nat × Rec)} {res : Rec} {NF : Nat} {ob : Rec} (hf : X_clearAged NF ob = some res) : Pays C B11 [.ref a] (top, (a, 6, ob) :: H) (Ans none (top, (a, 6, res) :: H)) :=
  Pays.of pnK (Nat.le_of_ble_eq_true rfl) (P := [vr a, vn]) 1 rfl (X_clearAged_p ob hf)
def X_acknowledge (NF : Nat) (ob : Rec) : Option (Rec) :=
  chk (32 : Int32) (gI ob 6) <|
  (X_clearPending (sA ob 1 (gI ob 6) (gI ob 7))).bind fun q2 =>
  dvz (gI q2 1) <|
  (X_ageOthers NF q2 ((gI ob 6) / (gI q2 1))).bind fun q5 =>
  chk (32 : Int32) ((gI ob 6) / (gI q2 1)) <|
  chk (32 : Int32) ((gI ob 6) / (gI q2 1)) <|
  (X_bothActive (sA (sA q5 4 ((gI ob 6) / (gI q2 1)) (1 : Int32)) 5 ((gI ob 6) / (gI q2 1)) (0 : Int32))).bind fun r9 =>
  if r9 = (0 : Int32) then
    some (sA (sA q5 4 ((gI ob 6) / (gI q2 1)) (1 : Int32)) 5 ((gI ob 6) / (gI q2 1)) (0 : Int32))
  else
    (X_clearAged NF (sA (sA q5 4 ((gI ob 6) / (gI q2 1)) (1 : Int32)) 5 ((gI ob 6) / (gI q2 1)) (0 : Int32))).bind fun q12 =>
    some q12
set_option maxRecDepth 65536 in
set_option maxHeartbeats 4000000 in
theorem X_acknowledge_p {C : Ctx} {top : Nat} {a : Nat} {H : List (Nat × Nat × Rec)} {res : Rec} {NF : Nat} (ob : Rec) (hf : X_acknowledge NF ob = some res) : Runs C B7 0 0 0 [vr a, vn, vn] [] (top, (a, 6, ob) :: H) (Ans none (top, (a, 6, res) :: H)) := by
  delta X_acknowledge at hf
  refine Runs.aloadN d7_0 rfl <| Runs.getI d7_1 w38 fS_6 <| Runs.istoreN (P' := [vr a, vi (gI ob 6), vn]) d7_4 (by decide) rfl <| Runs.aloadN d7_5 rfl <| Runs.getA d7_6 fA_1 w12 (by decide) <| Runs.iloadN d7_9 rfl <| Runs.aloadN d7_10 rfl <| Runs.getI d7_11 w40 fS_7 <| ?_
  refine chk_el hf fun hi1 hf => ?_
  refine Runs.iastoreA d7_14 fA_1 (by decide) hi1 <| Runs.aloadN d7_15 rfl <| ?_
  refine bind_el hf fun q2 hg3 hf => ?_
  refine Runs.callP (N := B8) (W := 0) (as := []) (S' := []) d7_16 w68 w69 w70 rfl cw8 ar8 rk7_8_0 (by decide) rfl rfl (X_clearPending_pay hg3) <| ans0 <| Runs.iloadN d7_19 rfl <| Runs.aloadN d7_20 rfl <| Runs.getI d7_21 w28 fS_1 <| ?_
  refine dvz_el hf fun hz4 hf => ?_
  refine Runs.idiv d7_24 hz4 <| Runs.istoreN (P' := [vr a, vi (gI ob 6), vi ((gI ob 6) / (gI q2 1))]) d7_25 (by decide) rfl <| Runs.aloadN d7_26 rfl <| Runs.iloadN d7_27 rfl <| ?_
  refine bind_el hf fun q5 hg6 hf => ?_
  refine Runs.callP (N := B9) (W := 0) (as := [.int ((gI ob 6) / (gI q2 1))]) (S' := []) d7_28 w72 w73 w74 rfl cw9 ar9 rk7_9_0 (by decide) rfl rfl (X_ageOthers_pay hg6) <| ans0 <| Runs.aloadN d7_31 rfl <| Runs.getA d7_32 fA_4 w19 (by decide) <| Runs.iloadN d7_35 rfl <| Runs.iconst d7_36 ci_1 <| ?_
  refine chk_el hf fun hi7 hf => ?_
  refine Runs.bastoreA (y := (1 : Int32)) d7_37 fA_4 (by decide) hi7 rfl <| Runs.aloadN d7_38 rfl <| Runs.getA d7_39 fA_5 w21 (by decide) <| Runs.iloadN d7_42 rfl <| Runs.iconst d7_43 ci_0 <| ?_
  refine chk_el hf fun hi8 hf => ?_
  refine Runs.iastoreA d7_44 fA_5 (by decide) hi8 <| Runs.aloadN d7_45 rfl <| ?_
  refine bind_el hf fun r9 hg10 hf => ?_
  refine Runs.callP (N := B10) (W := 0) (as := []) (S' := []) d7_46 w76 w77 w78 rfl cw10 ar10 rk7_10_0 (by decide) rfl rfl (X_bothActive_pay hg10) <| ans1 <| ?_
  refine ite_el hf (fun hc11 hf => ?_) (fun hc11 hf => ?_)
  · refine Runs.ifY (pc' := 56) d7_49 (teq hc11).1 (by decide) <| ?_
    obtain rfl := Option.some.inj hf
    exact Runs.retV d7_56 rfl ⟨by decide, by decide⟩ ⟨rfl, rfl⟩
  · refine Runs.ifN d7_49 (feq hc11).1 <| ?_
    refine Runs.aloadN d7_52 rfl <| ?_
    refine bind_el hf fun q12 hg13 hf => ?_
    obtain rfl := Option.some.inj hf
    exact Runs.callP (N := B11) (W := 0) (as := []) (S' := []) d7_53 w80 w81 w82 rfl cw11 ar11 rk7_11_0 (by decide) rfl rfl (X_clearAged_pay hg13) <| ans0 <| Runs.retV d7_56 rfl ⟨by decide, by decide⟩ ⟨rfl, rfl⟩
theorem X_acknowledge_pay {C : Ctx} {top : Nat} {a : Nat} {H : List (Nat × Nat × Rec)} {res : Rec} {NF : Nat} {ob : Rec} (hf : X_acknowledge NF ob = some res) : Pays C B7 [.ref a] (top, (a, 6, ob) :: H) (Ans none (top, (a, 6, res) :: H)) :=
  Pays.of pnK (Nat.le_of_ble_eq_true rfl) (P := [vr a, vn, vn]) 2 rfl (X_acknowledge_p ob hf)
def X_step_b53 (NF : Nat) (ob : Rec) : Option (Int32 × Rec) :=
  if (1 : Int32) < (gI ob 8) then
    (X_acknowledge NF ob).bind fun q5 =>
    some ((3 : Int32), q5)
  else
    chk (64 : Int32) (((gI ob 8) * (32 : Int32)) + (gI ob 6)) <|
    if (gI ob 8) = (0 : Int32) then
      some ((1 : Int32), (sI (sA ob 0 (((gI ob 8) * (32 : Int32)) + (gI ob 6)) (gI ob 7)) 8 ((gI ob 8) + (1 : Int32))))
    else
      some ((2 : Int32), (sI (sA ob 0 (((gI ob 8) * (32 : Int32)) + (gI ob 6)) (gI ob 7)) 8 ((gI ob 8) + (1 : Int32))))
set_option maxRecDepth 65536 in
set_option maxHeartbeats 4000000 in
theorem X_step_b53_p {C : Ctx} {top : Nat} {a : Nat} {H : List (Nat × Nat × Rec)} {res : Int32 × Rec} {NF : Nat} (ob : Rec) (hf : X_step_b53 NF ob = some res) : Runs C B6 0 0 53 [vr a, vn] [] (top, (a, 6, ob) :: H) (Ans (some (.int res.1)) (top, (a, 6, res.2) :: H)) := by
  delta X_step_b53 at hf
  refine Runs.aloadN d6_53 rfl <| Runs.getI d6_54 w42 fS_8 <| Runs.iconst d6_57 ci_1 <| ?_
  refine ite_el hf (fun hc4 hf => ?_) (fun hc4 hf => ?_)
  · refine Runs.icY (pc' := 104) d6_58 (tlt hc4).2.2.1 (by decide) <| ?_
    refine Runs.aloadN d6_104 rfl <| ?_
    refine bind_el hf fun q5 hg6 hf => ?_
    obtain rfl := Option.some.inj hf
    exact Runs.callP (N := B7) (W := 0) (as := []) (S' := []) d6_105 w64 w65 w66 rfl cw7 ar7 rk6_7_0 (by decide) rfl rfl (X_acknowledge_pay hg6) <| ans0 <| Runs.iconst d6_108 ci_3 <| Runs.retI d6_109 rfl ⟨by decide, by decide⟩ ⟨rfl, rfl⟩
  · refine Runs.icN d6_58 (flt hc4).2.2.1 <| ?_
    refine Runs.aloadN d6_61 rfl <| Runs.getI d6_62 w42 fS_8 <| Runs.istoreN (P' := [vr a, vi (gI ob 8)]) d6_65 (by decide) rfl <| Runs.aloadN d6_66 rfl <| Runs.getA d6_67 fA_0 w10 (by decide) <| Runs.iloadN d6_70 rfl <| Runs.bipush d6_71 cb_32 <| Runs.imul d6_73 <| Runs.aloadN d6_74 rfl <| Runs.getI d6_75 w38 fS_6 <| Runs.iadd d6_78 <| Runs.aloadN d6_79 rfl <| ?_
    refine Runs.getI d6_80 w40 fS_7 <| ?_
    refine chk_el hf fun hi7 hf => ?_
    refine Runs.iastoreA d6_83 fA_0 (by decide) hi7 <| Runs.aloadN d6_84 rfl <| Runs.dup d6_85 rfl <| Runs.getI d6_86 w42 fS_8 <| Runs.iconst d6_89 ci_1 <| Runs.iadd d6_90 <| Runs.putI d6_91 w42 fS_8 (Or.inl w43) <| Runs.iloadN d6_94 rfl <| ?_
    refine ite_el hf (fun hc8 hf => ?_) (fun hc8 hf => ?_)
    · refine Runs.ifN d6_95 (teq hc8).2 <| ?_
      obtain rfl := Option.some.inj hf
      exact Runs.iconst d6_98 ci_1 <| Runs.goto (pc' := 103) d6_99 (by decide) <| Runs.retI d6_103 rfl ⟨by decide, by decide⟩ ⟨rfl, rfl⟩
    · refine Runs.ifY (pc' := 102) d6_95 (feq hc8).2 (by decide) <| ?_
      obtain rfl := Option.some.inj hf
      exact Runs.iconst d6_102 ci_2 <| Runs.retI d6_103 rfl ⟨by decide, by decide⟩ ⟨rfl, rfl⟩
def X_step_w19 (NF : Nat) (k19 : Rec → Option (Int32 × Rec)) (ob : Rec) : Option (Int32 × Rec) :=
  if (1 : Int32) < (gI ob 8) then
    X_step_b53 NF ob
  else
    chk (2 : Int32) (gI ob 8) <|
    if (gA ob 2 (gI ob 8)) = (2 : Int32) then
      k19 (sI ob 8 ((gI ob 8) + (1 : Int32)))
    else
      X_step_b53 NF ob
def X_step_l19 (NF : Nat) : Nat → Rec → Option (Int32 × Rec)
  | 0, _ => none
  | n + 1, ob => X_step_w19 NF (X_step_l19 NF n) ob
set_option maxRecDepth 65536 in
set_option maxHeartbeats 4000000 in
theorem X_step_w19_p {C : Ctx} {top : Nat} {a : Nat} {H : List (Nat × Nat × Rec)} {res : Int32 × Rec} {NF : Nat} (k19 : Rec → Option (Int32 × Rec)) (hk19 : ∀ (ob : Rec), k19 ob = some res → Runs C B6 0 0 19 [vr a, vn] [] (top, (a, 6, ob) :: H) (Ans (some (.int res.1)) (top, (a, 6, res.2) :: H))) (ob : Rec) (hf : X_step_w19 NF k19 ob = some res) : Runs C B6 0 0 19 [vr a, vn] [] (top, (a, 6, ob) :: H) (Ans (some (.int res.1)) (top, (a, 6, res.2) :: H)) := by
  delta X_step_w19 at hf
  refine Runs.aloadN d6_19 rfl <| Runs.getI d6_20 w42 fS_8 <| Runs.iconst d6_23 ci_1 <| ?_
  refine ite_el hf (fun hc1 hf => ?_) (fun hc1 hf => ?_)
  · exact Runs.icY (pc' := 53) d6_24 (tlt hc1).2.2.1 (by decide) <| X_step_b53_p ob hf
  · refine Runs.icN d6_24 (flt hc1).2.2.1 <| ?_
    refine Runs.aloadN d6_27 rfl <| Runs.getA d6_28 fA_2 w14 (by decide) <| Runs.aloadN d6_31 rfl <| Runs.getI d6_32 w42 fS_8 <| ?_
    refine chk_el hf fun hi2 hf => ?_
    refine Runs.ialoadA d6_35 fA_2 (by decide) hi2 <| Runs.iconst d6_36 ci_2 <| ?_
    refine ite_el hf (fun hc3 hf => ?_) (fun hc3 hf => ?_)
    · refine Runs.icN d6_37 (teq hc3).2 <| ?_
      exact Runs.aloadN d6_40 rfl <| Runs.dup d6_41 rfl <| Runs.getI d6_42 w42 fS_8 <| Runs.iconst d6_45 ci_1 <| Runs.iadd d6_46 <| Runs.putI d6_47 w42 fS_8 (Or.inl w43) <| Runs.goto (pc' := 19) d6_50 (by decide) <| hk19 (sI ob 8 ((gI ob 8) + (1 : Int32))) hf
    · exact Runs.icY (pc' := 53) d6_37 (feq hc3).2 (by decide) <| X_step_b53_p ob hf
theorem X_step_l19_p {C : Ctx} {top : Nat} {a : Nat} {H : List (Nat × Nat × Rec)} {res : Int32 × Rec} {NF : Nat} (n : Nat) (ob : Rec) (hf : X_step_l19 NF n ob = some res) : Runs C B6 0 0 19 [vr a, vn] [] (top, (a, 6, ob) :: H) (Ans (some (.int res.1)) (top, (a, 6, res.2) :: H)) := by
  induction n generalizing ob with
  | zero => cases (show (none : Option (Int32 × Rec)) = some res from hf)
  | succ n ih => exact X_step_w19_p (X_step_l19 NF n) (fun ob h => ih _ h) ob hf
def X_step (NF : Nat) (ob : Rec) : Option (Int32 × Rec) :=
  if (gI ob 4) = (0 : Int32) then
    if (gI ob 5) = (0 : Int32) then
      some ((-5 : Int32), ob)
    else
      X_step_l19 NF NF ob
  else
    some ((-1 : Int32), ob)
set_option maxRecDepth 65536 in
set_option maxHeartbeats 4000000 in
theorem X_step_p {C : Ctx} {top : Nat} {a : Nat} {H : List (Nat × Nat × Rec)} {res : Int32 × Rec} {NF : Nat} (ob : Rec) (hf : X_step NF ob = some res) : Runs C B6 0 0 0 [vr a, vn] [] (top, (a, 6, ob) :: H) (Ans (some (.int res.1)) (top, (a, 6, res.2) :: H)) := by
  delta X_step at hf
  refine Runs.aloadN d6_0 rfl <| Runs.getI d6_1 w34 fS_4 <| ?_
  refine ite_el hf (fun hc9 hf => ?_) (fun hc9 hf => ?_)
  · refine Runs.ifY (pc' := 9) d6_4 (teq hc9).1 (by decide) <| ?_
    refine Runs.aloadN d6_9 rfl <| Runs.getI d6_10 w36 fS_5 <| ?_
    refine ite_el hf (fun hc10 hf => ?_) (fun hc10 hf => ?_)
    · refine Runs.ifN d6_13 (teq hc10).2 <| ?_
      obtain rfl := Option.some.inj hf
      exact Runs.bipush d6_16 cb_m5 <| Runs.retI d6_18 rfl ⟨by decide, by decide⟩ ⟨rfl, rfl⟩
    · exact Runs.ifY (pc' := 19) d6_13 (feq hc10).2 (by decide) <| X_step_l19_p NF ob hf
  · refine Runs.ifN d6_4 (feq hc9).1 <| ?_
    obtain rfl := Option.some.inj hf
    exact Runs.iconst d6_7 ci_m1 <| Runs.retI d6_8 rfl ⟨by decide, by decide⟩ ⟨rfl, rfl⟩
theorem X_step_pay {C : Ctx} {top : Nat} {a : Nat} {H : List (Nat × Nat × Rec)} {res : Int32 × Rec} {NF : Nat} {ob : Rec} (hf : X_step NF ob = some res) : Pays C B6 [.ref a] (top, (a, 6, ob) :: H) (Ans (some (.int res.1)) (top, (a, 6, res.2) :: H)) :=
  Pays.of pnK (Nat.le_of_ble_eq_true rfl) (P := [vr a, vn]) 1 rfl (X_step_p ob hf)
def X_crash (ob : Rec) : Option (Int32 × Rec) :=
  if (gI ob 4) = (0 : Int32) then
    (X_clearPending ob).bind fun q2 =>
    some ((0 : Int32), (sI q2 4 (1 : Int32)))
  else
    some ((-1 : Int32), ob)
set_option maxRecDepth 65536 in
set_option maxHeartbeats 4000000 in
theorem X_crash_p {C : Ctx} {top : Nat} {a : Nat} {H : List (Nat × Nat × Rec)} {res : Int32 × Rec} (ob : Rec) (hf : X_crash ob = some res) : Runs C B12 0 0 0 [vr a] [] (top, (a, 6, ob) :: H) (Ans (some (.int res.1)) (top, (a, 6, res.2) :: H)) := by
  delta X_crash at hf
  refine Runs.aloadN d12_0 rfl <| Runs.getI d12_1 w34 fS_4 <| ?_
  refine ite_el hf (fun hc1 hf => ?_) (fun hc1 hf => ?_)
  · refine Runs.ifY (pc' := 9) d12_4 (teq hc1).1 (by decide) <| ?_
    refine Runs.aloadN d12_9 rfl <| ?_
    refine bind_el hf fun q2 hg3 hf => ?_
    obtain rfl := Option.some.inj hf
    exact Runs.callP (N := B8) (W := 0) (as := []) (S' := []) d12_10 w68 w69 w70 rfl cw8 ar8 rk12_8_0 (by decide) rfl rfl (X_clearPending_pay hg3) <| ans0 <| Runs.aloadN d12_13 rfl <| Runs.iconst d12_14 ci_1 <| Runs.putZ (y := (1 : Int32)) d12_15 w34 fS_4 (Or.inl w35) rfl <| Runs.iconst d12_18 ci_0 <| Runs.retI d12_19 rfl ⟨by decide, by decide⟩ ⟨rfl, rfl⟩
  · refine Runs.ifN d12_4 (feq hc1).1 <| ?_
    obtain rfl := Option.some.inj hf
    exact Runs.iconst d12_7 ci_m1 <| Runs.retI d12_8 rfl ⟨by decide, by decide⟩ ⟨rfl, rfl⟩
theorem X_crash_pay {C : Ctx} {top : Nat} {a : Nat} {H : List (Nat × Nat × Rec)} {res : Int32 × Rec} {ob : Rec} (hf : X_crash ob = some res) : Pays C B12 [.ref a] (top, (a, 6, ob) :: H) (Ans (some (.int res.1)) (top, (a, 6, res.2) :: H)) :=
  Pays.of pnK (Nat.le_of_ble_eq_true rfl) (P := [vr a]) 0 rfl (X_crash_p ob hf)
def X_pendingBlock (ob : Rec) : Option (Int32) :=
  if (gI ob 5) = (0 : Int32) then
    some (-1 : Int32)
  else
    some (gI ob 6)
set_option maxRecDepth 65536 in
set_option maxHeartbeats 4000000 in
theorem X_pendingBlock_p {C : Ctx} {top : Nat} {a : Nat} {H : List (Nat × Nat × Rec)} {ob : Rec} {res : Int32} (hf : X_pendingBlock ob = some res) : Runs C B13 0 0 0 [vr a] [] (top, (a, 6, ob) :: H) (Ans (some (.int res)) (top, (a, 6, ob) :: H)) := by
  delta X_pendingBlock at hf
  refine Runs.aloadN d13_0 rfl <| Runs.getI d13_1 w36 fS_5 <| ?_
  refine ite_el hf (fun hc1 hf => ?_) (fun hc1 hf => ?_)
  · refine Runs.ifY (pc' := 14) d13_4 (teq hc1).1 (by decide) <| ?_
    obtain rfl := Option.some.inj hf
    exact Runs.iconst d13_14 ci_m1 <| Runs.retI d13_15 rfl ⟨by decide, by decide⟩ ⟨rfl, rfl⟩
  · refine Runs.ifN d13_4 (feq hc1).1 <| ?_
    obtain rfl := Option.some.inj hf
    exact Runs.aloadN d13_7 rfl <| Runs.getI d13_8 w38 fS_6 <| Runs.goto (pc' := 15) d13_11 (by decide) <| Runs.retI d13_15 rfl ⟨by decide, by decide⟩ ⟨rfl, rfl⟩
theorem X_pendingBlock_pay {C : Ctx} {top : Nat} {a : Nat} {H : List (Nat × Nat × Rec)} {ob : Rec} {res : Int32} (hf : X_pendingBlock ob = some res) : Pays C B13 [.ref a] (top, (a, 6, ob) :: H) (Ans (some (.int res)) (top, (a, 6, ob) :: H)) :=
  Pays.of pnK (Nat.le_of_ble_eq_true rfl) (P := [vr a]) 0 rfl (X_pendingBlock_p hf)
def X_isDown (ob : Rec) : Option (Int32) :=
  some ((gI ob 4) &&& 1)
set_option maxRecDepth 65536 in
set_option maxHeartbeats 4000000 in
theorem X_isDown_p {C : Ctx} {top : Nat} {a : Nat} {H : List (Nat × Nat × Rec)} {ob : Rec} {res : Int32} (hf : X_isDown ob = some res) : Runs C B14 0 0 0 [vr a] [] (top, (a, 6, ob) :: H) (Ans (some (.int res)) (top, (a, 6, ob) :: H)) := by
  delta X_isDown at hf
  obtain rfl := Option.some.inj hf
  exact Runs.aloadN d14_0 rfl <| Runs.getI d14_1 w34 fS_4 <| Runs.retZ (y := ((gI ob 4) &&& 1)) d14_4 rfl ⟨by decide, by decide⟩ rfl ⟨rfl, rfl⟩
theorem X_isDown_pay {C : Ctx} {top : Nat} {a : Nat} {H : List (Nat × Nat × Rec)} {ob : Rec} {res : Int32} (hf : X_isDown ob = some res) : Pays C B14 [.ref a] (top, (a, 6, ob) :: H) (Ans (some (.int res)) (top, (a, 6, ob) :: H)) :=
  Pays.of pnK (Nat.le_of_ble_eq_true rfl) (P := [vr a]) 0 rfl (X_isDown_p hf)
def X_read (ob : Rec) (i1 : Int32) : Option (Int32) :=
  if (gI ob 4) = (0 : Int32) then
    (X_validBlock ob i1).bind fun r2 =>
    if r2 = (0 : Int32) then
      some (-1 : Int32)
    else
      chk (2 : Int32) (0 : Int32) <|
      if (gA ob 2 (0 : Int32)) = (0 : Int32) then
        chk (64 : Int32) (((0 : Int32) * (32 : Int32)) + i1) <|
        some (gA ob 0 (((0 : Int32) * (32 : Int32)) + i1))
      else
        chk (64 : Int32) (((1 : Int32) * (32 : Int32)) + i1) <|
        some (gA ob 0 (((1 : Int32) * (32 : Int32)) + i1))
  else
    some (-1 : Int32)
set_option maxRecDepth 65536 in
set_option maxHeartbeats 4000000 in
theorem X_read_p {C : Ctx} {top : Nat} {a : Nat} {H : List (Nat × Nat × Rec)} {ob : Rec} {res : Int32} (i1 : Int32) (hf : X_read ob i1 = some res) : Runs C B15 0 0 0 [vr a, vi i1, vn] [] (top, (a, 6, ob) :: H) (Ans (some (.int res)) (top, (a, 6, ob) :: H)) := by
  delta X_read at hf
  refine Runs.aloadN d15_0 rfl <| Runs.getI d15_1 w34 fS_4 <| ?_
  refine ite_el hf (fun hc1 hf => ?_) (fun hc1 hf => ?_)
  · refine Runs.ifN d15_4 (teq hc1).2 <| ?_
    refine Runs.aloadN d15_7 rfl <| Runs.iloadN d15_8 rfl <| ?_
    refine bind_el hf fun r2 hg3 hf => ?_
    refine Runs.callP (N := B4) (W := 0) (as := [.int i1]) (S' := []) d15_9 w50 w51 w52 rfl cw4 ar4 rk15_4_0 (by decide) rfl rfl (X_validBlock_pay hg3) <| ans1 <| ?_
    refine ite_el hf (fun hc4 hf => ?_) (fun hc4 hf => ?_)
    · refine Runs.ifN d15_12 (teq hc4).2 <| ?_
      obtain rfl := Option.some.inj hf
      exact Runs.iconst d15_15 ci_m1 <| Runs.retI d15_16 rfl ⟨by decide, by decide⟩ ⟨rfl, rfl⟩
    · refine Runs.ifY (pc' := 17) d15_12 (feq hc4).2 (by decide) <| ?_
      refine Runs.aloadN d15_17 rfl <| Runs.getA d15_18 fA_2 w14 (by decide) <| Runs.iconst d15_21 ci_0 <| ?_
      refine chk_el hf fun hi5 hf => ?_
      refine Runs.ialoadA d15_22 fA_2 (by decide) hi5 <| ?_
      refine ite_el hf (fun hc6 hf => ?_) (fun hc6 hf => ?_)
      · refine Runs.ifN d15_23 (teq hc6).2 <| ?_
        refine Runs.iconst d15_26 ci_0 <| Runs.goto (pc' := 31) d15_27 (by decide) <| Runs.istoreN (P' := [vr a, vi i1, vi (0 : Int32)]) d15_31 (by decide) rfl <| Runs.aloadN d15_32 rfl <| Runs.getA d15_33 fA_0 w10 (by decide) <| Runs.iloadN d15_36 rfl <| Runs.bipush d15_37 cb_32 <| Runs.imul d15_39 <| Runs.iloadN d15_40 rfl <| Runs.iadd d15_41 <| ?_
        refine chk_el hf fun hi7 hf => ?_
        obtain rfl := Option.some.inj hf
        exact Runs.ialoadA d15_42 fA_0 (by decide) hi7 <| Runs.retI d15_43 rfl ⟨by decide, by decide⟩ ⟨rfl, rfl⟩
      · refine Runs.ifY (pc' := 30) d15_23 (feq hc6).2 (by decide) <| ?_
        refine Runs.iconst d15_30 ci_1 <| Runs.istoreN (P' := [vr a, vi i1, vi (1 : Int32)]) d15_31 (by decide) rfl <| Runs.aloadN d15_32 rfl <| Runs.getA d15_33 fA_0 w10 (by decide) <| Runs.iloadN d15_36 rfl <| Runs.bipush d15_37 cb_32 <| Runs.imul d15_39 <| Runs.iloadN d15_40 rfl <| Runs.iadd d15_41 <| ?_
        refine chk_el hf fun hi8 hf => ?_
        obtain rfl := Option.some.inj hf
        exact Runs.ialoadA d15_42 fA_0 (by decide) hi8 <| Runs.retI d15_43 rfl ⟨by decide, by decide⟩ ⟨rfl, rfl⟩
  · refine Runs.ifY (pc' := 15) d15_4 (feq hc1).2 (by decide) <| ?_
    obtain rfl := Option.some.inj hf
    exact Runs.iconst d15_15 ci_m1 <| Runs.retI d15_16 rfl ⟨by decide, by decide⟩ ⟨rfl, rfl⟩
theorem X_read_pay {C : Ctx} {top : Nat} {a : Nat} {H : List (Nat × Nat × Rec)} {ob : Rec} {res : Int32} {i1 : Int32} (hf : X_read ob i1 = some res) : Pays C B15 [.ref a, .int i1] (top, (a, 6, ob) :: H) (Ans (some (.int res)) (top, (a, 6, ob) :: H)) :=
  Pays.of pnK (Nat.le_of_ble_eq_true rfl) (P := [vr a, vi i1, vn]) 1 rfl (X_read_p i1 hf)
def X_restart (ob : Rec) : Option (Int32 × Rec) :=
  if (gI ob 4) = (0 : Int32) then
    some ((-4 : Int32), ob)
  else
    chk (2 : Int32) (0 : Int32) <|
    if (gA ob 2 (0 : Int32)) = (0 : Int32) then
      chk (2 : Int32) (1 : Int32) <|
      if (gA ob 2 (1 : Int32)) = (0 : Int32) then
        chk (2 : Int32) (1 : Int32) <|
        some ((0 : Int32), (sA (sI ob 4 (0 : Int32)) 2 (1 : Int32) (1 : Int32)))
      else
        some ((0 : Int32), (sI ob 4 (0 : Int32)))
    else
      some ((0 : Int32), (sI ob 4 (0 : Int32)))
set_option maxRecDepth 65536 in
set_option maxHeartbeats 4000000 in
theorem X_restart_p {C : Ctx} {top : Nat} {a : Nat} {H : List (Nat × Nat × Rec)} {res : Int32 × Rec} (ob : Rec) (hf : X_restart ob = some res) : Runs C B16 0 0 0 [vr a] [] (top, (a, 6, ob) :: H) (Ans (some (.int res.1)) (top, (a, 6, res.2) :: H)) := by
  delta X_restart at hf
  refine Runs.aloadN d16_0 rfl <| Runs.getI d16_1 w34 fS_4 <| ?_
  refine ite_el hf (fun hc1 hf => ?_) (fun hc1 hf => ?_)
  · refine Runs.ifN d16_4 (teq hc1).2 <| ?_
    obtain rfl := Option.some.inj hf
    exact Runs.bipush d16_7 cb_m4 <| Runs.retI d16_9 rfl ⟨by decide, by decide⟩ ⟨rfl, rfl⟩
  · refine Runs.ifY (pc' := 10) d16_4 (feq hc1).2 (by decide) <| ?_
    refine Runs.aloadN d16_10 rfl <| Runs.iconst d16_11 ci_0 <| Runs.putZ (y := (0 : Int32)) d16_12 w34 fS_4 (Or.inl w35) rfl <| Runs.aloadN d16_15 rfl <| Runs.getA d16_16 fA_2 w14 (by decide) <| Runs.iconst d16_19 ci_0 <| ?_
    refine chk_el hf fun hi2 hf => ?_
    refine Runs.ialoadA d16_20 fA_2 (by decide) hi2 <| ?_
    refine ite_el hf (fun hc3 hf => ?_) (fun hc3 hf => ?_)
    · refine Runs.ifN d16_21 (teq hc3).2 <| ?_
      refine Runs.aloadN d16_24 rfl <| Runs.getA d16_25 fA_2 w14 (by decide) <| Runs.iconst d16_28 ci_1 <| ?_
      refine chk_el hf fun hi4 hf => ?_
      refine Runs.ialoadA d16_29 fA_2 (by decide) hi4 <| ?_
      refine ite_el hf (fun hc5 hf => ?_) (fun hc5 hf => ?_)
      · refine Runs.ifN d16_30 (teq hc5).2 <| ?_
        refine Runs.aloadN d16_33 rfl <| Runs.getA d16_34 fA_2 w14 (by decide) <| Runs.iconst d16_37 ci_1 <| Runs.iconst d16_38 ci_1 <| ?_
        refine chk_el hf fun hi6 hf => ?_
        obtain rfl := Option.some.inj hf
        exact Runs.iastoreA d16_39 fA_2 (by decide) hi6 <| Runs.iconst d16_40 ci_0 <| Runs.retI d16_41 rfl ⟨by decide, by decide⟩ ⟨rfl, rfl⟩
      · refine Runs.ifY (pc' := 40) d16_30 (feq hc5).2 (by decide) <| ?_
        obtain rfl := Option.some.inj hf
        exact Runs.iconst d16_40 ci_0 <| Runs.retI d16_41 rfl ⟨by decide, by decide⟩ ⟨rfl, rfl⟩
    · refine Runs.ifY (pc' := 40) d16_21 (feq hc3).2 (by decide) <| ?_
      obtain rfl := Option.some.inj hf
      exact Runs.iconst d16_40 ci_0 <| Runs.retI d16_41 rfl ⟨by decide, by decide⟩ ⟨rfl, rfl⟩
theorem X_restart_pay {C : Ctx} {top : Nat} {a : Nat} {H : List (Nat × Nat × Rec)} {res : Int32 × Rec} {ob : Rec} (hf : X_restart ob = some res) : Pays C B16 [.ref a] (top, (a, 6, ob) :: H) (Ans (some (.int res.1)) (top, (a, 6, res.2) :: H)) :=
  Pays.of pnK (Nat.le_of_ble_eq_true rfl) (P := [vr a]) 0 rfl (X_restart_p ob hf)
def X_validLeg (ob : Rec) (i1 : Int32) : Option (Int32) :=
  if i1 = (0 : Int32) then
    some (1 : Int32)
  else
    if i1 = (1 : Int32) then
      some (1 : Int32)
    else
      some (0 : Int32)
set_option maxRecDepth 65536 in
set_option maxHeartbeats 4000000 in
theorem X_validLeg_p {C : Ctx} {top : Nat} {a : Nat} {H : List (Nat × Nat × Rec)} {ob : Rec} {res : Int32} (i1 : Int32) (hf : X_validLeg ob i1 = some res) : Runs C B18 0 0 0 [vr a, vi i1] [] (top, (a, 6, ob) :: H) (Ans (some (.int res)) (top, (a, 6, ob) :: H)) := by
  delta X_validLeg at hf
  refine Runs.iloadN d18_0 rfl <| ?_
  refine ite_el hf (fun hc1 hf => ?_) (fun hc1 hf => ?_)
  · refine Runs.ifY (pc' := 9) d18_1 (teq hc1).1 (by decide) <| ?_
    obtain rfl := Option.some.inj hf
    exact Runs.iconst d18_9 ci_1 <| Runs.goto (pc' := 14) d18_10 (by decide) <| Runs.retZ (y := (1 : Int32)) d18_14 rfl ⟨by decide, by decide⟩ rfl ⟨rfl, rfl⟩
  · refine Runs.ifN d18_1 (feq hc1).1 <| ?_
    refine Runs.iloadN d18_4 rfl <| Runs.iconst d18_5 ci_1 <| ?_
    refine ite_el hf (fun hc2 hf => ?_) (fun hc2 hf => ?_)
    · refine Runs.icN d18_6 (teq hc2).2 <| ?_
      obtain rfl := Option.some.inj hf
      exact Runs.iconst d18_9 ci_1 <| Runs.goto (pc' := 14) d18_10 (by decide) <| Runs.retZ (y := (1 : Int32)) d18_14 rfl ⟨by decide, by decide⟩ rfl ⟨rfl, rfl⟩
    · refine Runs.icY (pc' := 13) d18_6 (feq hc2).2 (by decide) <| ?_
      obtain rfl := Option.some.inj hf
      exact Runs.iconst d18_13 ci_0 <| Runs.retZ (y := (0 : Int32)) d18_14 rfl ⟨by decide, by decide⟩ rfl ⟨rfl, rfl⟩
theorem X_validLeg_pay {C : Ctx} {top : Nat} {a : Nat} {H : List (Nat × Nat × Rec)} {ob : Rec} {res : Int32} {i1 : Int32} (hf : X_validLeg ob i1 = some res) : Pays C B18 [.ref a, .int i1] (top, (a, 6, ob) :: H) (Ans (some (.int res)) (top, (a, 6, ob) :: H)) :=
  Pays.of pnK (Nat.le_of_ble_eq_true rfl) (P := [vr a, vi i1]) 0 rfl (X_validLeg_p i1 hf)
def X_legState (ob : Rec) (i1 : Int32) : Option (Int32) :=
  (X_validLeg ob i1).bind fun r1 =>
  if r1 = (0 : Int32) then
    some (-1 : Int32)
  else
    chk (2 : Int32) i1 <|
    some (gA ob 2 i1)
set_option maxRecDepth 65536 in
set_option maxHeartbeats 4000000 in
theorem X_legState_p {C : Ctx} {top : Nat} {a : Nat} {H : List (Nat × Nat × Rec)} {ob : Rec} {res : Int32} (i1 : Int32) (hf : X_legState ob i1 = some res) : Runs C B17 0 0 0 [vr a, vi i1] [] (top, (a, 6, ob) :: H) (Ans (some (.int res)) (top, (a, 6, ob) :: H)) := by
  delta X_legState at hf
  refine Runs.aloadN d17_0 rfl <| Runs.iloadN d17_1 rfl <| ?_
  refine bind_el hf fun r1 hg2 hf => ?_
  refine Runs.callP (N := B18) (W := 0) (as := [.int i1]) (S' := []) d17_2 w114 w115 w116 rfl cw18 ar18 rk17_18_0 (by decide) rfl rfl (X_validLeg_pay hg2) <| ans1 <| ?_
  refine ite_el hf (fun hc3 hf => ?_) (fun hc3 hf => ?_)
  · refine Runs.ifN d17_5 (teq hc3).2 <| ?_
    obtain rfl := Option.some.inj hf
    exact Runs.iconst d17_8 ci_m1 <| Runs.retI d17_9 rfl ⟨by decide, by decide⟩ ⟨rfl, rfl⟩
  · refine Runs.ifY (pc' := 10) d17_5 (feq hc3).2 (by decide) <| ?_
    refine Runs.aloadN d17_10 rfl <| Runs.getA d17_11 fA_2 w14 (by decide) <| Runs.iloadN d17_14 rfl <| ?_
    refine chk_el hf fun hi4 hf => ?_
    obtain rfl := Option.some.inj hf
    exact Runs.ialoadA d17_15 fA_2 (by decide) hi4 <| Runs.retI d17_16 rfl ⟨by decide, by decide⟩ ⟨rfl, rfl⟩
theorem X_legState_pay {C : Ctx} {top : Nat} {a : Nat} {H : List (Nat × Nat × Rec)} {ob : Rec} {res : Int32} {i1 : Int32} (hf : X_legState ob i1 = some res) : Pays C B17 [.ref a, .int i1] (top, (a, 6, ob) :: H) (Ans (some (.int res)) (top, (a, 6, ob) :: H)) :=
  Pays.of pnK (Nat.le_of_ble_eq_true rfl) (P := [vr a, vi i1]) 0 rfl (X_legState_p i1 hf)
def X_peek (ob : Rec) (i1 : Int32) (i2 : Int32) : Option (Int32) :=
  (X_validLeg ob i1).bind fun r1 =>
  if r1 = (0 : Int32) then
    some (-1 : Int32)
  else
    (X_validBlock ob i2).bind fun r4 =>
    if r4 = (0 : Int32) then
      some (-1 : Int32)
    else
      chk (64 : Int32) ((i1 * (32 : Int32)) + i2) <|
      some (gA ob 0 ((i1 * (32 : Int32)) + i2))
set_option maxRecDepth 65536 in
set_option maxHeartbeats 4000000 in
theorem X_peek_p {C : Ctx} {top : Nat} {a : Nat} {H : List (Nat × Nat × Rec)} {ob : Rec} {res : Int32} (i1 : Int32) (i2 : Int32) (hf : X_peek ob i1 i2 = some res) : Runs C B19 0 0 0 [vr a, vi i1, vi i2] [] (top, (a, 6, ob) :: H) (Ans (some (.int res)) (top, (a, 6, ob) :: H)) := by
  delta X_peek at hf
  refine Runs.aloadN d19_0 rfl <| Runs.iloadN d19_1 rfl <| ?_
  refine bind_el hf fun r1 hg2 hf => ?_
  refine Runs.callP (N := B18) (W := 0) (as := [.int i1]) (S' := []) d19_2 w114 w115 w116 rfl cw18 ar18 rk19_18_0 (by decide) rfl rfl (X_validLeg_pay hg2) <| ans1 <| ?_
  refine ite_el hf (fun hc3 hf => ?_) (fun hc3 hf => ?_)
  · refine Runs.ifY (pc' := 16) d19_5 (teq hc3).1 (by decide) <| ?_
    obtain rfl := Option.some.inj hf
    exact Runs.iconst d19_16 ci_m1 <| Runs.retI d19_17 rfl ⟨by decide, by decide⟩ ⟨rfl, rfl⟩
  · refine Runs.ifN d19_5 (feq hc3).1 <| ?_
    refine Runs.aloadN d19_8 rfl <| Runs.iloadN d19_9 rfl <| ?_
    refine bind_el hf fun r4 hg5 hf => ?_
    refine Runs.callP (N := B4) (W := 0) (as := [.int i2]) (S' := []) d19_10 w50 w51 w52 rfl cw4 ar4 rk19_4_0 (by decide) rfl rfl (X_validBlock_pay hg5) <| ans1 <| ?_
    refine ite_el hf (fun hc6 hf => ?_) (fun hc6 hf => ?_)
    · refine Runs.ifN d19_13 (teq hc6).2 <| ?_
      obtain rfl := Option.some.inj hf
      exact Runs.iconst d19_16 ci_m1 <| Runs.retI d19_17 rfl ⟨by decide, by decide⟩ ⟨rfl, rfl⟩
    · refine Runs.ifY (pc' := 18) d19_13 (feq hc6).2 (by decide) <| ?_
      refine Runs.aloadN d19_18 rfl <| Runs.getA d19_19 fA_0 w10 (by decide) <| Runs.iloadN d19_22 rfl <| Runs.bipush d19_23 cb_32 <| Runs.imul d19_25 <| Runs.iloadN d19_26 rfl <| Runs.iadd d19_27 <| ?_
      refine chk_el hf fun hi7 hf => ?_
      obtain rfl := Option.some.inj hf
      exact Runs.ialoadA d19_28 fA_0 (by decide) hi7 <| Runs.retI d19_29 rfl ⟨by decide, by decide⟩ ⟨rfl, rfl⟩
theorem X_peek_pay {C : Ctx} {top : Nat} {a : Nat} {H : List (Nat × Nat × Rec)} {ob : Rec} {res : Int32} {i1 : Int32} {i2 : Int32} (hf : X_peek ob i1 i2 = some res) : Pays C B19 [.ref a, .int i1, .int i2] (top, (a, 6, ob) :: H) (Ans (some (.int res)) (top, (a, 6, ob) :: H)) :=
  Pays.of pnK (Nat.le_of_ble_eq_true rfl) (P := [vr a, vi i1, vi i2]) 0 rfl (X_peek_p i1 i2 hf)
def X_ackedValue (ob : Rec) (i1 : Int32) : Option (Int32) :=
  (X_validBlock ob i1).bind fun r1 =>
  if r1 = (0 : Int32) then
    some (-1 : Int32)
  else
    chk (32 : Int32) i1 <|
    some (gA ob 1 i1)
set_option maxRecDepth 65536 in
set_option maxHeartbeats 4000000 in
theorem X_ackedValue_p {C : Ctx} {top : Nat} {a : Nat} {H : List (Nat × Nat × Rec)} {ob : Rec} {res : Int32} (i1 : Int32) (hf : X_ackedValue ob i1 = some res) : Runs C B20 0 0 0 [vr a, vi i1] [] (top, (a, 6, ob) :: H) (Ans (some (.int res)) (top, (a, 6, ob) :: H)) := by
  delta X_ackedValue at hf
  refine Runs.aloadN d20_0 rfl <| Runs.iloadN d20_1 rfl <| ?_
  refine bind_el hf fun r1 hg2 hf => ?_
  refine Runs.callP (N := B4) (W := 0) (as := [.int i1]) (S' := []) d20_2 w50 w51 w52 rfl cw4 ar4 rk20_4_0 (by decide) rfl rfl (X_validBlock_pay hg2) <| ans1 <| ?_
  refine ite_el hf (fun hc3 hf => ?_) (fun hc3 hf => ?_)
  · refine Runs.ifN d20_5 (teq hc3).2 <| ?_
    obtain rfl := Option.some.inj hf
    exact Runs.iconst d20_8 ci_m1 <| Runs.retI d20_9 rfl ⟨by decide, by decide⟩ ⟨rfl, rfl⟩
  · refine Runs.ifY (pc' := 10) d20_5 (feq hc3).2 (by decide) <| ?_
    refine Runs.aloadN d20_10 rfl <| Runs.getA d20_11 fA_1 w12 (by decide) <| Runs.iloadN d20_14 rfl <| ?_
    refine chk_el hf fun hi4 hf => ?_
    obtain rfl := Option.some.inj hf
    exact Runs.ialoadA d20_15 fA_1 (by decide) hi4 <| Runs.retI d20_16 rfl ⟨by decide, by decide⟩ ⟨rfl, rfl⟩
theorem X_ackedValue_pay {C : Ctx} {top : Nat} {a : Nat} {H : List (Nat × Nat × Rec)} {ob : Rec} {res : Int32} {i1 : Int32} (hf : X_ackedValue ob i1 = some res) : Pays C B20 [.ref a, .int i1] (top, (a, 6, ob) :: H) (Ans (some (.int res)) (top, (a, 6, ob) :: H)) :=
  Pays.of pnK (Nat.le_of_ble_eq_true rfl) (P := [vr a, vi i1]) 0 rfl (X_ackedValue_p i1 hf)
def X_staleLeg (ob : Rec) : Option (Int32) :=
  chk (2 : Int32) (0 : Int32) <|
  if (gA ob 2 (0 : Int32)) = (1 : Int32) then
    some (0 : Int32)
  else
    chk (2 : Int32) (1 : Int32) <|
    if (gA ob 2 (1 : Int32)) = (1 : Int32) then
      some (1 : Int32)
    else
      some (-1 : Int32)
set_option maxRecDepth 65536 in
set_option maxHeartbeats 4000000 in
theorem X_staleLeg_p {C : Ctx} {top : Nat} {a : Nat} {H : List (Nat × Nat × Rec)} {ob : Rec} {res : Int32} (hf : X_staleLeg ob = some res) : Runs C B22 0 0 0 [vr a] [] (top, (a, 6, ob) :: H) (Ans (some (.int res)) (top, (a, 6, ob) :: H)) := by
  delta X_staleLeg at hf
  refine Runs.aloadN d22_0 rfl <| Runs.getA d22_1 fA_2 w14 (by decide) <| Runs.iconst d22_4 ci_0 <| ?_
  refine chk_el hf fun hi1 hf => ?_
  refine Runs.ialoadA d22_5 fA_2 (by decide) hi1 <| Runs.iconst d22_6 ci_1 <| ?_
  refine ite_el hf (fun hc2 hf => ?_) (fun hc2 hf => ?_)
  · refine Runs.icN d22_7 (teq hc2).2 <| ?_
    obtain rfl := Option.some.inj hf
    exact Runs.iconst d22_10 ci_0 <| Runs.retI d22_11 rfl ⟨by decide, by decide⟩ ⟨rfl, rfl⟩
  · refine Runs.icY (pc' := 12) d22_7 (feq hc2).2 (by decide) <| ?_
    refine Runs.aloadN d22_12 rfl <| Runs.getA d22_13 fA_2 w14 (by decide) <| Runs.iconst d22_16 ci_1 <| ?_
    refine chk_el hf fun hi3 hf => ?_
    refine Runs.ialoadA d22_17 fA_2 (by decide) hi3 <| Runs.iconst d22_18 ci_1 <| ?_
    refine ite_el hf (fun hc4 hf => ?_) (fun hc4 hf => ?_)
    · refine Runs.icN d22_19 (teq hc4).2 <| ?_
      obtain rfl := Option.some.inj hf
      exact Runs.iconst d22_22 ci_1 <| Runs.retI d22_23 rfl ⟨by decide, by decide⟩ ⟨rfl, rfl⟩
    · refine Runs.icY (pc' := 24) d22_19 (feq hc4).2 (by decide) <| ?_
      obtain rfl := Option.some.inj hf
      exact Runs.iconst d22_24 ci_m1 <| Runs.retI d22_25 rfl ⟨by decide, by decide⟩ ⟨rfl, rfl⟩
theorem X_staleLeg_pay {C : Ctx} {top : Nat} {a : Nat} {H : List (Nat × Nat × Rec)} {ob : Rec} {res : Int32} (hf : X_staleLeg ob = some res) : Pays C B22 [.ref a] (top, (a, 6, ob) :: H) (Ans (some (.int res)) (top, (a, 6, ob) :: H)) :=
  Pays.of pnK (Nat.le_of_ble_eq_true rfl) (P := [vr a]) 0 rfl (X_staleLeg_p hf)
def X_copyDirtyRegions_w73 (NF : Nat) (k14 : Rec → Int32 → Int32 → Int32 → Option (Rec)) (k73 : Rec → Int32 → Int32 → Int32 → Int32 → Int32 → Option (Rec)) (ob : Rec) (i3 : Int32) (i4 : Int32) (i5 : Int32) (i7 : Int32) (i8 : Int32) : Option (Rec) :=
  if i8 < i7 then
    chk (64 : Int32) (i3 + i8) <|
    chk (64 : Int32) (i4 + i8) <|
    k73 (sA ob 0 (i4 + i8) (gA ob 0 (i3 + i8))) i3 i4 i5 i7 (i8 + (1 : Int32))
  else
    k14 ob i3 i4 (i5 + (1 : Int32))
def X_copyDirtyRegions_l73 (NF : Nat) (k14 : Rec → Int32 → Int32 → Int32 → Option (Rec)) : Nat → Rec → Int32 → Int32 → Int32 → Int32 → Int32 → Option (Rec)
  | 0, _, _, _, _, _, _ => none
  | n + 1, ob, i3, i4, i5, i7, i8 => X_copyDirtyRegions_w73 NF k14 (X_copyDirtyRegions_l73 NF k14 n) ob i3 i4 i5 i7 i8
set_option maxRecDepth 65536 in
set_option maxHeartbeats 4000000 in
theorem X_copyDirtyRegions_w73_p {C : Ctx} {top : Nat} {a : Nat} {H : List (Nat × Nat × Rec)} {res : Rec} {NF : Nat} (k14 : Rec → Int32 → Int32 → Int32 → Option (Rec)) (hk14 : ∀ (ob : Rec) (i3 : Int32) (i4 : Int32) (i5 : Int32), k14 ob i3 i4 i5 = some res → Runs C B23 0 0 14 [vr a, vn, vn, vi i3, vi i4, vi i5, vn, vn, vn] [] (top, (a, 6, ob) :: H) (Ans none (top, (a, 6, res) :: H))) (k73 : Rec → Int32 → Int32 → Int32 → Int32 → Int32 → Option (Rec)) (hk73 : ∀ (ob : Rec) (i3 : Int32) (i4 : Int32) (i5 : Int32) (i7 : Int32) (i8 : Int32), k73 ob i3 i4 i5 i7 i8 = some res → Runs C B23 0 0 73 [vr a, vn, vn, vi i3, vi i4, vi i5, vn, vi i7, vi i8] [] (top, (a, 6, ob) :: H) (Ans none (top, (a, 6, res) :: H))) (ob : Rec) (i3 : Int32) (i4 : Int32) (i5 : Int32) (i7 : Int32) (i8 : Int32) (hf : X_copyDirtyRegions_w73 NF k14 k73 ob i3 i4 i5 i7 i8 = some res) : Runs C B23 0 0 73 [vr a, vn, vn, vi i3, vi i4, vi i5, vn, vi i7, vi i8] [] (top, (a, 6, ob) :: H) (Ans none (top, (a, 6, res) :: H)) := by
  delta X_copyDirtyRegions_w73 at hf
  refine Runs.iload d23_73 rfl <| Runs.iload d23_75 rfl <| ?_
  refine ite_el hf (fun hc5 hf => ?_) (fun hc5 hf => ?_)
  · refine Runs.icN d23_77 (tlt hc5).2.1 <| ?_
    refine Runs.aloadN d23_80 rfl <| Runs.getA d23_81 fA_0 w10 (by decide) <| Runs.iload d23_84 rfl <| Runs.iload d23_86 rfl <| Runs.iadd d23_88 <| Runs.aloadN d23_89 rfl <| Runs.getA d23_90 fA_0 w10 (by decide) <| Runs.iloadN d23_93 rfl <| Runs.iload d23_94 rfl <| Runs.iadd d23_96 <| ?_
    refine chk_el hf fun hi6 hf => ?_
    refine Runs.ialoadA d23_97 fA_0 (by decide) hi6 <| ?_
    refine chk_el hf fun hi7 hf => ?_
    exact Runs.iastoreA d23_98 fA_0 (by decide) hi7 <| Runs.iinc (P' := [vr a, vn, vn, vi i3, vi i4, vi i5, vn, vi i7, vi (i8 + (1 : Int32))]) d23_99 ci_1 rfl (by decide) rfl <| Runs.goto (pc' := 73) d23_102 (by decide) <| hk73 (sA ob 0 (i4 + i8) (gA ob 0 (i3 + i8))) i3 i4 i5 i7 (i8 + (1 : Int32)) hf
  · refine Runs.icY (pc' := 105) d23_77 (flt hc5).2.1 (by decide) <| ?_
    exact Runs.iinc (P' := [vr a, vn, vn, vi i3, vi i4, vi (i5 + (1 : Int32)), vn, vi i7, vi i8]) d23_105 ci_1 rfl (by decide) rfl <| Runs.goto (pc' := 14) d23_108 (by decide) <| Runs.forget [true, false, false, true, true, true, false, false, false] rfl <| hk14 ob i3 i4 (i5 + (1 : Int32)) hf
theorem X_copyDirtyRegions_l73_p {C : Ctx} {top : Nat} {a : Nat} {H : List (Nat × Nat × Rec)} {res : Rec} {NF : Nat} (k14 : Rec → Int32 → Int32 → Int32 → Option (Rec)) (hk14 : ∀ (ob : Rec) (i3 : Int32) (i4 : Int32) (i5 : Int32), k14 ob i3 i4 i5 = some res → Runs C B23 0 0 14 [vr a, vn, vn, vi i3, vi i4, vi i5, vn, vn, vn] [] (top, (a, 6, ob) :: H) (Ans none (top, (a, 6, res) :: H))) (n : Nat) (ob : Rec) (i3 : Int32) (i4 : Int32) (i5 : Int32) (i7 : Int32) (i8 : Int32) (hf : X_copyDirtyRegions_l73 NF k14 n ob i3 i4 i5 i7 i8 = some res) : Runs C B23 0 0 73 [vr a, vn, vn, vi i3, vi i4, vi i5, vn, vi i7, vi i8] [] (top, (a, 6, ob) :: H) (Ans none (top, (a, 6, res) :: H)) := by
  induction n generalizing ob i3 i4 i5 i7 i8 with
  | zero => cases (show (none : Option (Rec)) = some res from hf)
  | succ n ih => exact X_copyDirtyRegions_w73_p k14 hk14 (X_copyDirtyRegions_l73 NF k14 n) (fun ob i3 i4 i5 i7 i8 h => ih _ _ _ _ _ _ h) ob i3 i4 i5 i7 i8 hf
def X_copyDirtyRegions_w14 (NF : Nat) (k14 : Rec → Int32 → Int32 → Int32 → Option (Rec)) (ob : Rec) (i3 : Int32) (i4 : Int32) (i5 : Int32) : Option (Rec) :=
  if i5 < (gI ob 3) then
    chk (32 : Int32) i5 <|
    if (gA ob 3 i5) = (0 : Int32) then
      k14 ob i3 i4 (i5 + (1 : Int32))
    else
      if (gI ob 0) < ((i5 * (gI ob 1)) + (gI ob 1)) then
        X_copyDirtyRegions_l73 NF k14 NF ob i3 i4 i5 (gI ob 0) (i5 * (gI ob 1))
      else
        X_copyDirtyRegions_l73 NF k14 NF ob i3 i4 i5 ((i5 * (gI ob 1)) + (gI ob 1)) (i5 * (gI ob 1))
  else
    some ob
def X_copyDirtyRegions_l14 (NF : Nat) : Nat → Rec → Int32 → Int32 → Int32 → Option (Rec)
  | 0, _, _, _, _ => none
  | n + 1, ob, i3, i4, i5 => X_copyDirtyRegions_w14 NF (X_copyDirtyRegions_l14 NF n) ob i3 i4 i5
set_option maxRecDepth 65536 in
set_option maxHeartbeats 4000000 in
theorem X_copyDirtyRegions_w14_p {C : Ctx} {top : Nat} {a : Nat} {H : List (Nat × Nat × Rec)} {res : Rec} {NF : Nat} (k14 : Rec → Int32 → Int32 → Int32 → Option (Rec)) (hk14 : ∀ (ob : Rec) (i3 : Int32) (i4 : Int32) (i5 : Int32), k14 ob i3 i4 i5 = some res → Runs C B23 0 0 14 [vr a, vn, vn, vi i3, vi i4, vi i5, vn, vn, vn] [] (top, (a, 6, ob) :: H) (Ans none (top, (a, 6, res) :: H))) (ob : Rec) (i3 : Int32) (i4 : Int32) (i5 : Int32) (hf : X_copyDirtyRegions_w14 NF k14 ob i3 i4 i5 = some res) : Runs C B23 0 0 14 [vr a, vn, vn, vi i3, vi i4, vi i5, vn, vn, vn] [] (top, (a, 6, ob) :: H) (Ans none (top, (a, 6, res) :: H)) := by
  delta X_copyDirtyRegions_w14 at hf
  refine Runs.iload d23_14 rfl <| Runs.aloadN d23_16 rfl <| Runs.getI d23_17 w32 fS_3 <| ?_
  refine ite_el hf (fun hc1 hf => ?_) (fun hc1 hf => ?_)
  · refine Runs.icN d23_20 (tlt hc1).2.1 <| ?_
    refine Runs.aloadN d23_23 rfl <| Runs.getA d23_24 fA_3 w17 (by decide) <| Runs.iload d23_27 rfl <| ?_
    refine chk_el hf fun hi2 hf => ?_
    refine Runs.baloadA d23_29 fA_3 (by decide) hi2 <| ?_
    refine ite_el hf (fun hc3 hf => ?_) (fun hc3 hf => ?_)
    · refine Runs.ifN d23_30 (teq hc3).2 <| ?_
      exact Runs.goto (pc' := 105) d23_33 (by decide) <| Runs.iinc (P' := [vr a, vn, vn, vi i3, vi i4, vi (i5 + (1 : Int32)), vn, vn, vn]) d23_105 ci_1 rfl (by decide) rfl <| Runs.goto (pc' := 14) d23_108 (by decide) <| hk14 ob i3 i4 (i5 + (1 : Int32)) hf
    · refine Runs.ifY (pc' := 36) d23_30 (feq hc3).2 (by decide) <| ?_
      refine Runs.iload d23_36 rfl <| Runs.aloadN d23_38 rfl <| Runs.getI d23_39 w28 fS_1 <| Runs.imul d23_42 <| Runs.istore (P' := [vr a, vn, vn, vi i3, vi i4, vi i5, vi (i5 * (gI ob 1)), vn, vn]) d23_43 (by decide) rfl <| Runs.iload d23_45 rfl <| Runs.aloadN d23_47 rfl <| Runs.getI d23_48 w28 fS_1 <| Runs.iadd d23_51 <| Runs.istore (P' := [vr a, vn, vn, vi i3, vi i4, vi i5, vi (i5 * (gI ob 1)), vi ((i5 * (gI ob 1)) + (gI ob 1)), vn]) d23_52 (by decide) rfl <| Runs.iload d23_54 rfl <| Runs.aloadN d23_56 rfl <| ?_
      refine Runs.getI d23_57 w26 fS_0 <| ?_
      refine ite_el hf (fun hc4 hf => ?_) (fun hc4 hf => ?_)
      · refine Runs.icN d23_60 (tlt hc4).2.2.2 <| ?_
        exact Runs.aloadN d23_63 rfl <| Runs.getI d23_64 w26 fS_0 <| Runs.istore (P' := [vr a, vn, vn, vi i3, vi i4, vi i5, vi (i5 * (gI ob 1)), vi (gI ob 0), vn]) d23_67 (by decide) rfl <| Runs.iload d23_69 rfl <| Runs.istore (P' := [vr a, vn, vn, vi i3, vi i4, vi i5, vi (i5 * (gI ob 1)), vi (gI ob 0), vi (i5 * (gI ob 1))]) d23_71 (by decide) rfl <| Runs.forget [true, false, false, true, true, true, false, true, true] rfl <| X_copyDirtyRegions_l73_p k14 hk14 NF ob i3 i4 i5 (gI ob 0) (i5 * (gI ob 1)) hf
      · refine Runs.icY (pc' := 69) d23_60 (flt hc4).2.2.2 (by decide) <| ?_
        exact Runs.iload d23_69 rfl <| Runs.istore (P' := [vr a, vn, vn, vi i3, vi i4, vi i5, vi (i5 * (gI ob 1)), vi ((i5 * (gI ob 1)) + (gI ob 1)), vi (i5 * (gI ob 1))]) d23_71 (by decide) rfl <| Runs.forget [true, false, false, true, true, true, false, true, true] rfl <| X_copyDirtyRegions_l73_p k14 hk14 NF ob i3 i4 i5 ((i5 * (gI ob 1)) + (gI ob 1)) (i5 * (gI ob 1)) hf
  · refine Runs.icY (pc' := 111) d23_20 (flt hc1).2.1 (by decide) <| ?_
    obtain rfl := Option.some.inj hf
    exact Runs.retV d23_111 rfl ⟨by decide, by decide⟩ ⟨rfl, rfl⟩
theorem X_copyDirtyRegions_l14_p {C : Ctx} {top : Nat} {a : Nat} {H : List (Nat × Nat × Rec)} {res : Rec} {NF : Nat} (n : Nat) (ob : Rec) (i3 : Int32) (i4 : Int32) (i5 : Int32) (hf : X_copyDirtyRegions_l14 NF n ob i3 i4 i5 = some res) : Runs C B23 0 0 14 [vr a, vn, vn, vi i3, vi i4, vi i5, vn, vn, vn] [] (top, (a, 6, ob) :: H) (Ans none (top, (a, 6, res) :: H)) := by
  induction n generalizing ob i3 i4 i5 with
  | zero => cases (show (none : Option (Rec)) = some res from hf)
  | succ n ih => exact X_copyDirtyRegions_w14_p (X_copyDirtyRegions_l14 NF n) (fun ob i3 i4 i5 h => ih _ _ _ _ h) ob i3 i4 i5 hf
def X_copyDirtyRegions (NF : Nat) (ob : Rec) (i1 : Int32) (i2 : Int32) : Option (Rec) :=
  X_copyDirtyRegions_l14 NF NF ob (i1 * (32 : Int32)) (i2 * (32 : Int32)) (0 : Int32)
set_option maxRecDepth 65536 in
set_option maxHeartbeats 4000000 in
theorem X_copyDirtyRegions_p {C : Ctx} {top : Nat} {a : Nat} {H : List (Nat × Nat × Rec)} {res : Rec} {NF : Nat} (ob : Rec) (i1 : Int32) (i2 : Int32) (hf : X_copyDirtyRegions NF ob i1 i2 = some res) : Runs C B23 0 0 0 [vr a, vi i1, vi i2, vn, vn, vn, vn, vn, vn] [] (top, (a, 6, ob) :: H) (Ans none (top, (a, 6, res) :: H)) := by
  delta X_copyDirtyRegions at hf
  exact Runs.iloadN d23_0 rfl <| Runs.bipush d23_1 cb_32 <| Runs.imul d23_3 <| Runs.istoreN (P' := [vr a, vi i1, vi i2, vi (i1 * (32 : Int32)), vn, vn, vn, vn, vn]) d23_4 (by decide) rfl <| Runs.iloadN d23_5 rfl <| Runs.bipush d23_6 cb_32 <| Runs.imul d23_8 <| Runs.istore (P' := [vr a, vi i1, vi i2, vi (i1 * (32 : Int32)), vi (i2 * (32 : Int32)), vn, vn, vn, vn]) d23_9 (by decide) rfl <| Runs.iconst d23_11 ci_0 <| Runs.istore (P' := [vr a, vi i1, vi i2, vi (i1 * (32 : Int32)), vi (i2 * (32 : Int32)), vi (0 : Int32), vn, vn, vn]) d23_12 (by decide) rfl <| Runs.forget [true, false, false, true, true, true, false, false, false] rfl <| X_copyDirtyRegions_l14_p NF ob (i1 * (32 : Int32)) (i2 * (32 : Int32)) (0 : Int32) hf
theorem X_copyDirtyRegions_pay {C : Ctx} {top : Nat} {a : Nat} {H : List (Nat × Nat × Rec)} {res : Rec} {NF : Nat} {ob : Rec} {i1 : Int32} {i2 : Int32} (hf : X_copyDirtyRegions NF ob i1 i2 = some res) : Pays C B23 [.ref a, .int i1, .int i2] (top, (a, 6, ob) :: H) (Ans none (top, (a, 6, res) :: H)) :=
  Pays.of pnK (Nat.le_of_ble_eq_true rfl) (P := [vr a, vi i1, vi i2, vn, vn, vn, vn, vn, vn]) 6 rfl (X_copyDirtyRegions_p ob i1 i2 hf)
def X_clearBitmap_w2 (NF : Nat) (k2 : Rec → Int32 → Option (Rec)) (ob : Rec) (i1 : Int32) : Option (Rec) :=
  if i1 < (32 : Int32) then
    chk (32 : Int32) i1 <|
    chk (32 : Int32) i1 <|
    chk (32 : Int32) i1 <|
    k2 (sA (sA (sA ob 3 i1 (0 : Int32)) 4 i1 (0 : Int32)) 5 i1 (0 : Int32)) (i1 + (1 : Int32))
  else
    some ob
def X_clearBitmap_l2 (NF : Nat) : Nat → Rec → Int32 → Option (Rec)
  | 0, _, _ => none
  | n + 1, ob, i1 => X_clearBitmap_w2 NF (X_clearBitmap_l2 NF n) ob i1
set_option maxRecDepth 65536 in
set_option maxHeartbeats 4000000 in
theorem X_clearBitmap_w2_p {C : Ctx} {top : Nat} {a : Nat} {H : List (Nat × Nat × Rec)} {res : Rec} {NF : Nat} (k2 : Rec → Int32 → Option (Rec)) (hk2 : ∀ (ob : Rec) (i1 : Int32), k2 ob i1 = some res → Runs C B24 0 0 2 [vr a, vi i1] [] (top, (a, 6, ob) :: H) (Ans none (top, (a, 6, res) :: H))) (ob : Rec) (i1 : Int32) (hf : X_clearBitmap_w2 NF k2 ob i1 = some res) : Runs C B24 0 0 2 [vr a, vi i1] [] (top, (a, 6, ob) :: H) (Ans none (top, (a, 6, res) :: H)) := by
  delta X_clearBitmap_w2 at hf
  refine Runs.iloadN d24_2 rfl <| Runs.bipush d24_3 cb_32 <| ?_
  refine ite_el hf (fun hc1 hf => ?_) (fun hc1 hf => ?_)
  · refine Runs.icN d24_5 (tlt hc1).2.1 <| ?_
    refine Runs.aloadN d24_8 rfl <| Runs.getA d24_9 fA_3 w17 (by decide) <| Runs.iloadN d24_12 rfl <| Runs.iconst d24_13 ci_0 <| ?_
    refine chk_el hf fun hi2 hf => ?_
    refine Runs.bastoreA (y := (0 : Int32)) d24_14 fA_3 (by decide) hi2 rfl <| Runs.aloadN d24_15 rfl <| Runs.getA d24_16 fA_4 w19 (by decide) <| Runs.iloadN d24_19 rfl <| Runs.iconst d24_20 ci_0 <| ?_
    refine chk_el hf fun hi3 hf => ?_
    refine Runs.bastoreA (y := (0 : Int32)) d24_21 fA_4 (by decide) hi3 rfl <| Runs.aloadN d24_22 rfl <| Runs.getA d24_23 fA_5 w21 (by decide) <| Runs.iloadN d24_26 rfl <| Runs.iconst d24_27 ci_0 <| ?_
    refine chk_el hf fun hi4 hf => ?_
    exact Runs.iastoreA d24_28 fA_5 (by decide) hi4 <| Runs.iinc (P' := [vr a, vi (i1 + (1 : Int32))]) d24_29 ci_1 rfl (by decide) rfl <| Runs.goto (pc' := 2) d24_32 (by decide) <| hk2 (sA (sA (sA ob 3 i1 (0 : Int32)) 4 i1 (0 : Int32)) 5 i1 (0 : Int32)) (i1 + (1 : Int32)) hf
  · refine Runs.icY (pc' := 35) d24_5 (flt hc1).2.1 (by decide) <| ?_
    obtain rfl := Option.some.inj hf
    exact Runs.retV d24_35 rfl ⟨by decide, by decide⟩ ⟨rfl, rfl⟩
theorem X_clearBitmap_l2_p {C : Ctx} {top : Nat} {a : Nat} {H : List (Nat × Nat × Rec)} {res : Rec} {NF : Nat} (n : Nat) (ob : Rec) (i1 : Int32) (hf : X_clearBitmap_l2 NF n ob i1 = some res) : Runs C B24 0 0 2 [vr a, vi i1] [] (top, (a, 6, ob) :: H) (Ans none (top, (a, 6, res) :: H)) := by
  induction n generalizing ob i1 with
  | zero => cases (show (none : Option (Rec)) = some res from hf)
  | succ n ih => exact X_clearBitmap_w2_p (X_clearBitmap_l2 NF n) (fun ob i1 h => ih _ _ h) ob i1 hf
def X_clearBitmap (NF : Nat) (ob : Rec) : Option (Rec) :=
  X_clearBitmap_l2 NF NF ob (0 : Int32)
set_option maxRecDepth 65536 in
set_option maxHeartbeats 4000000 in
theorem X_clearBitmap_p {C : Ctx} {top : Nat} {a : Nat} {H : List (Nat × Nat × Rec)} {res : Rec} {NF : Nat} (ob : Rec) (hf : X_clearBitmap NF ob = some res) : Runs C B24 0 0 0 [vr a, vn] [] (top, (a, 6, ob) :: H) (Ans none (top, (a, 6, res) :: H)) := by
  delta X_clearBitmap at hf
  exact Runs.iconst d24_0 ci_0 <| Runs.istoreN (P' := [vr a, vi (0 : Int32)]) d24_1 (by decide) rfl <| X_clearBitmap_l2_p NF ob (0 : Int32) hf
theorem X_clearBitmap_pay {C : Ctx} {top : Nat} {a : Nat} {H : List (Nat × Nat × Rec)} {res : Rec} {NF : Nat} {ob : Rec} (hf : X_clearBitmap NF ob = some res) : Pays C B24 [.ref a] (top, (a, 6, ob) :: H) (Ans none (top, (a, 6, res) :: H)) :=
  Pays.of pnK (Nat.le_of_ble_eq_true rfl) (P := [vr a, vn]) 1 rfl (X_clearBitmap_p ob hf)
def X_resync (NF : Nat) (ob : Rec) : Option (Int32 × Rec) :=
  if (gI ob 4) = (0 : Int32) then
    if (gI ob 5) = (0 : Int32) then
      (X_staleLeg ob).bind fun r3 =>
      if r3 = (-1 : Int32) then
        some ((-4 : Int32), ob)
      else
        (X_copyDirtyRegions NF ob ((1 : Int32) - r3) r3).bind fun q6 =>
        (X_clearBitmap NF q6).bind fun q8 =>
        chk (2 : Int32) r3 <|
        some ((0 : Int32), (sA q8 2 r3 (0 : Int32)))
    else
      some ((-3 : Int32), ob)
  else
    some ((-1 : Int32), ob)
set_option maxRecDepth 65536 in
set_option maxHeartbeats 4000000 in
theorem X_resync_p {C : Ctx} {top : Nat} {a : Nat} {H : List (Nat × Nat × Rec)} {res : Int32 × Rec} {NF : Nat} (ob : Rec) (hf : X_resync NF ob = some res) : Runs C B21 0 0 0 [vr a, vn] [] (top, (a, 6, ob) :: H) (Ans (some (.int res.1)) (top, (a, 6, res.2) :: H)) := by
  delta X_resync at hf
  refine Runs.aloadN d21_0 rfl <| Runs.getI d21_1 w34 fS_4 <| ?_
  refine ite_el hf (fun hc1 hf => ?_) (fun hc1 hf => ?_)
  · refine Runs.ifY (pc' := 9) d21_4 (teq hc1).1 (by decide) <| ?_
    refine Runs.aloadN d21_9 rfl <| Runs.getI d21_10 w36 fS_5 <| ?_
    refine ite_el hf (fun hc2 hf => ?_) (fun hc2 hf => ?_)
    · refine Runs.ifY (pc' := 19) d21_13 (teq hc2).1 (by decide) <| ?_
      refine Runs.aloadN d21_19 rfl <| ?_
      refine bind_el hf fun r3 hg4 hf => ?_
      refine Runs.callP (N := B22) (W := 0) (as := []) (S' := []) d21_20 w133 w134 w135 rfl cw22 ar22 rk21_22_0 (by decide) rfl rfl (X_staleLeg_pay hg4) <| ans1 <| Runs.istoreN (P' := [vr a, vi r3]) d21_23 (by decide) rfl <| Runs.iloadN d21_24 rfl <| Runs.iconst d21_25 ci_m1 <| ?_
      refine ite_el hf (fun hc5 hf => ?_) (fun hc5 hf => ?_)
      · refine Runs.icN d21_26 (teq hc5).2 <| ?_
        obtain rfl := Option.some.inj hf
        exact Runs.bipush d21_29 cb_m4 <| Runs.retI d21_31 rfl ⟨by decide, by decide⟩ ⟨rfl, rfl⟩
      · refine Runs.icY (pc' := 32) d21_26 (feq hc5).2 (by decide) <| ?_
        refine Runs.aloadN d21_32 rfl <| Runs.iconst d21_33 ci_1 <| Runs.iloadN d21_34 rfl <| Runs.isub d21_35 <| Runs.iloadN d21_36 rfl <| ?_
        refine bind_el hf fun q6 hg7 hf => ?_
        refine Runs.callP (N := B23) (W := 0) (as := [.int ((1 : Int32) - r3), .int r3]) (S' := []) d21_37 w137 w138 w139 rfl cw23 ar23 rk21_23_0 (by decide) rfl rfl (X_copyDirtyRegions_pay hg7) <| ans0 <| Runs.aloadN d21_40 rfl <| ?_
        refine bind_el hf fun q8 hg9 hf => ?_
        refine Runs.callP (N := B24) (W := 0) (as := []) (S' := []) d21_41 w141 w142 w143 rfl cw24 ar24 rk21_24_0 (by decide) rfl rfl (X_clearBitmap_pay hg9) <| ans0 <| Runs.aloadN d21_44 rfl <| Runs.getA d21_45 fA_2 w14 (by decide) <| Runs.iloadN d21_48 rfl <| Runs.iconst d21_49 ci_0 <| ?_
        refine chk_el hf fun hi10 hf => ?_
        obtain rfl := Option.some.inj hf
        exact Runs.iastoreA d21_50 fA_2 (by decide) hi10 <| Runs.iconst d21_51 ci_0 <| Runs.retI d21_52 rfl ⟨by decide, by decide⟩ ⟨rfl, rfl⟩
    · refine Runs.ifN d21_13 (feq hc2).1 <| ?_
      obtain rfl := Option.some.inj hf
      exact Runs.bipush d21_16 cb_m3 <| Runs.retI d21_18 rfl ⟨by decide, by decide⟩ ⟨rfl, rfl⟩
  · refine Runs.ifN d21_4 (feq hc1).1 <| ?_
    obtain rfl := Option.some.inj hf
    exact Runs.iconst d21_7 ci_m1 <| Runs.retI d21_8 rfl ⟨by decide, by decide⟩ ⟨rfl, rfl⟩
theorem X_resync_pay {C : Ctx} {top : Nat} {a : Nat} {H : List (Nat × Nat × Rec)} {res : Int32 × Rec} {NF : Nat} {ob : Rec} (hf : X_resync NF ob = some res) : Pays C B21 [.ref a] (top, (a, 6, ob) :: H) (Ans (some (.int res.1)) (top, (a, 6, res.2) :: H)) :=
  Pays.of pnK (Nat.le_of_ble_eq_true rfl) (P := [vr a, vn]) 1 rfl (X_resync_p ob hf)
def L_law_b316 (NF : Nat) (k284 : Rec → Int32 → Int32 → Int32 → Int32 → Int32 → Option (Int32)) (ob : Rec) (i7 : Int32) (i8 : Int32) (i9 : Int32) (i10 : Int32) (i12 : Int32) (t0 : Int32) : Option (Int32) :=
  (X_peek ob (0 : Int32) i12).bind fun r23 =>
  (X_peek ob (1 : Int32) i12).bind fun r25 =>
  if r23 = t0 then
    if r25 = t0 then
      k284 ob i7 i8 i9 i10 (i12 + (1 : Int32))
    else
      some (0 : Int32)
  else
    some (0 : Int32)
set_option maxRecDepth 65536 in
set_option maxHeartbeats 4000000 in
theorem L_law_b316_p {C : Ctx} {res : Int32} {NF : Nat} (k284 : Rec → Int32 → Int32 → Int32 → Int32 → Int32 → Option (Int32)) (hk284 : ∀ (ob : Rec) (i7 : Int32) (i8 : Int32) (i9 : Int32) (i10 : Int32) (i12 : Int32), k284 ob i7 i8 i9 i10 i12 = some res → Runs C B0 7 209 284 [vn, vn, vn, vn, vn, vn, vr C.2.2.1, vi i7, vi i8, vi i9, vi i10, vn, vi i12, vn, vn, vn] [] (C.2.2.1 + 1 + 6, (C.2.2.1, 6, ob) :: []) (fun v _ => v = (some (.int res)))) (ob : Rec) (i7 : Int32) (i8 : Int32) (i9 : Int32) (i10 : Int32) (i12 : Int32) (t0 : Int32) (hf : L_law_b316 NF k284 ob i7 i8 i9 i10 i12 t0 = some res) : Runs C B0 7 209 316 [vn, vn, vn, vn, vn, vn, vr C.2.2.1, vi i7, vi i8, vi i9, vi i10, vn, vi i12, vn, vn, vn] [.int t0] (C.2.2.1 + 1 + 6, (C.2.2.1, 6, ob) :: []) (fun v _ => v = (some (.int res))) := by
  delta L_law_b316 at hf
  refine Runs.istore (P' := [vn, vn, vn, vn, vn, vn, vr C.2.2.1, vi i7, vi i8, vi i9, vi i10, vn, vi i12, vi t0, vn, vn]) d0_316 (by decide) rfl <| Runs.aload d0_318 rfl <| Runs.iconst d0_320 ci_0 <| Runs.iload d0_321 rfl <| ?_
  refine bind_el hf fun r23 hg24 hf => ?_
  refine Runs.callV (N := B19) (W := 0) (as := [.int (0 : Int32), .int i12]) (S' := []) d0_323 w118 w119 w120 w121 cw19 ar19 rk0_19_0 (by decide) rfl rfl (X_peek_pay hg24) <| ans1 <| Runs.istore (P' := [vn, vn, vn, vn, vn, vn, vr C.2.2.1, vi i7, vi i8, vi i9, vi i10, vn, vi i12, vi t0, vi r23, vn]) d0_326 (by decide) rfl <| Runs.aload d0_328 rfl <| Runs.iconst d0_330 ci_1 <| Runs.iload d0_331 rfl <| ?_
  refine bind_el hf fun r25 hg26 hf => ?_
  refine Runs.callV (N := B19) (W := 0) (as := [.int (1 : Int32), .int i12]) (S' := []) d0_333 w118 w119 w120 w121 cw19 ar19 rk0_19_0 (by decide) rfl rfl (X_peek_pay hg26) <| ans1 <| Runs.istore (P' := [vn, vn, vn, vn, vn, vn, vr C.2.2.1, vi i7, vi i8, vi i9, vi i10, vn, vi i12, vi t0, vi r23, vi r25]) d0_336 (by decide) rfl <| Runs.iload d0_338 rfl <| Runs.iload d0_340 rfl <| ?_
  refine ite_el hf (fun hc27 hf => ?_) (fun hc27 hf => ?_)
  · refine Runs.icN d0_342 (teq hc27).2 <| ?_
    refine Runs.iload d0_345 rfl <| Runs.iload d0_347 rfl <| ?_
    refine ite_el hf (fun hc28 hf => ?_) (fun hc28 hf => ?_)
    · refine Runs.icY (pc' := 354) d0_349 (teq hc28).1 (by decide) <| ?_
      exact Runs.iinc (P' := [vn, vn, vn, vn, vn, vn, vr C.2.2.1, vi i7, vi i8, vi i9, vi i10, vn, vi (i12 + (1 : Int32)), vi t0, vi r23, vi r25]) d0_354 ci_1 rfl (by decide) rfl <| Runs.goto (pc' := 284) d0_357 (by decide) <| Runs.forget [false, false, false, false, false, false, true, true, true, true, true, false, true, false, false, false] rfl <| hk284 ob i7 i8 i9 i10 (i12 + (1 : Int32)) hf
    · refine Runs.icN d0_349 (feq hc28).1 <| ?_
      obtain rfl := Option.some.inj hf
      exact Runs.iconst d0_352 ci_0 <| Runs.retZ (y := (0 : Int32)) d0_353 rfl ⟨by decide, by decide⟩ rfl rfl
  · refine Runs.icY (pc' := 352) d0_342 (feq hc27).2 (by decide) <| ?_
    obtain rfl := Option.some.inj hf
    exact Runs.iconst d0_352 ci_0 <| Runs.retZ (y := (0 : Int32)) d0_353 rfl ⟨by decide, by decide⟩ rfl rfl
def L_law_w284 (NF : Nat) (k284 : Rec → Int32 → Int32 → Int32 → Int32 → Int32 → Option (Int32)) (ob : Rec) (i7 : Int32) (i8 : Int32) (i9 : Int32) (i10 : Int32) (i12 : Int32) : Option (Int32) :=
  if i12 < (8 : Int32) then
    if i12 = i8 then
      L_law_b316 NF k284 ob i7 i8 i9 i10 i12 i10
    else
      if i12 = i7 then
        L_law_b316 NF k284 ob i7 i8 i9 i10 i12 i9
      else
        L_law_b316 NF k284 ob i7 i8 i9 i10 i12 (0 : Int32)
  else
    some (1 : Int32)
def L_law_l284 (NF : Nat) : Nat → Rec → Int32 → Int32 → Int32 → Int32 → Int32 → Option (Int32)
  | 0, _, _, _, _, _, _ => none
  | n + 1, ob, i7, i8, i9, i10, i12 => L_law_w284 NF (L_law_l284 NF n) ob i7 i8 i9 i10 i12
set_option maxRecDepth 65536 in
set_option maxHeartbeats 4000000 in
theorem L_law_w284_p {C : Ctx} {res : Int32} {NF : Nat} (k284 : Rec → Int32 → Int32 → Int32 → Int32 → Int32 → Option (Int32)) (hk284 : ∀ (ob : Rec) (i7 : Int32) (i8 : Int32) (i9 : Int32) (i10 : Int32) (i12 : Int32), k284 ob i7 i8 i9 i10 i12 = some res → Runs C B0 7 209 284 [vn, vn, vn, vn, vn, vn, vr C.2.2.1, vi i7, vi i8, vi i9, vi i10, vn, vi i12, vn, vn, vn] [] (C.2.2.1 + 1 + 6, (C.2.2.1, 6, ob) :: []) (fun v _ => v = (some (.int res)))) (ob : Rec) (i7 : Int32) (i8 : Int32) (i9 : Int32) (i10 : Int32) (i12 : Int32) (hf : L_law_w284 NF k284 ob i7 i8 i9 i10 i12 = some res) : Runs C B0 7 209 284 [vn, vn, vn, vn, vn, vn, vr C.2.2.1, vi i7, vi i8, vi i9, vi i10, vn, vi i12, vn, vn, vn] [] (C.2.2.1 + 1 + 6, (C.2.2.1, 6, ob) :: []) (fun v _ => v = (some (.int res))) := by
  delta L_law_w284 at hf
  refine Runs.iload d0_284 rfl <| Runs.bipush d0_286 cb_8 <| ?_
  refine ite_el hf (fun hc20 hf => ?_) (fun hc20 hf => ?_)
  · refine Runs.icN d0_288 (tlt hc20).2.1 <| ?_
    refine Runs.iload d0_291 rfl <| Runs.iload d0_293 rfl <| ?_
    refine ite_el hf (fun hc21 hf => ?_) (fun hc21 hf => ?_)
    · refine Runs.icN d0_295 (teq hc21).2 <| ?_
      exact Runs.iload d0_298 rfl <| Runs.goto (pc' := 316) d0_300 (by decide) <| L_law_b316_p k284 hk284 ob i7 i8 i9 i10 i12 i10 hf
    · refine Runs.icY (pc' := 303) d0_295 (feq hc21).2 (by decide) <| ?_
      refine Runs.iload d0_303 rfl <| Runs.iload d0_305 rfl <| ?_
      refine ite_el hf (fun hc22 hf => ?_) (fun hc22 hf => ?_)
      · refine Runs.icN d0_307 (teq hc22).2 <| ?_
        exact Runs.iload d0_310 rfl <| Runs.goto (pc' := 316) d0_312 (by decide) <| L_law_b316_p k284 hk284 ob i7 i8 i9 i10 i12 i9 hf
      · refine Runs.icY (pc' := 315) d0_307 (feq hc22).2 (by decide) <| ?_
        exact Runs.iconst d0_315 ci_0 <| L_law_b316_p k284 hk284 ob i7 i8 i9 i10 i12 (0 : Int32) hf
  · refine Runs.icY (pc' := 360) d0_288 (flt hc20).2.1 (by decide) <| ?_
    obtain rfl := Option.some.inj hf
    exact Runs.iconst d0_360 ci_1 <| Runs.retZ (y := (1 : Int32)) d0_361 rfl ⟨by decide, by decide⟩ rfl rfl
theorem L_law_l284_p {C : Ctx} {res : Int32} {NF : Nat} (n : Nat) (ob : Rec) (i7 : Int32) (i8 : Int32) (i9 : Int32) (i10 : Int32) (i12 : Int32) (hf : L_law_l284 NF n ob i7 i8 i9 i10 i12 = some res) : Runs C B0 7 209 284 [vn, vn, vn, vn, vn, vn, vr C.2.2.1, vi i7, vi i8, vi i9, vi i10, vn, vi i12, vn, vn, vn] [] (C.2.2.1 + 1 + 6, (C.2.2.1, 6, ob) :: []) (fun v _ => v = (some (.int res))) := by
  induction n generalizing ob i7 i8 i9 i10 i12 with
  | zero => cases (show (none : Option (Int32)) = some res from hf)
  | succ n ih => exact L_law_w284_p (L_law_l284 NF n) (fun ob i7 i8 i9 i10 i12 h => ih _ _ _ _ _ _ h) ob i7 i8 i9 i10 i12 hf
def L_law_b201 (NF : Nat) (ob : Rec) (i7 : Int32) (i8 : Int32) (i9 : Int32) (i10 : Int32) (t0 : Int32) : Option (Int32) :=
  (X_read ob i8).bind fun r1 =>
  if r1 = i10 then
    (X_peek ob (1 : Int32) i8).bind fun r4 =>
    if r4 = t0 then
      (X_ackedValue ob i8).bind fun r7 =>
      if r7 = t0 then
        bind2 (X_resync NF ob) fun r10 q11 =>
        if r10 = (0 : Int32) then
          (X_legState q11 (1 : Int32)).bind fun r14 =>
          if r14 = (0 : Int32) then
            (X_read q11 i8).bind fun r17 =>
            if r17 = i10 then
              L_law_l284 NF NF q11 i7 i8 i9 i10 (0 : Int32)
            else
              some (0 : Int32)
          else
            some (0 : Int32)
        else
          some (0 : Int32)
      else
        some (0 : Int32)
    else
      some (0 : Int32)
  else
    some (0 : Int32)
set_option maxRecDepth 65536 in
set_option maxHeartbeats 4000000 in
theorem L_law_b201_p {C : Ctx} {res : Int32} {NF : Nat} (ob : Rec) (i7 : Int32) (i8 : Int32) (i9 : Int32) (i10 : Int32) (t0 : Int32) (hf : L_law_b201 NF ob i7 i8 i9 i10 t0 = some res) : Runs C B0 7 209 201 [vn, vn, vn, vn, vn, vn, vr C.2.2.1, vi i7, vi i8, vi i9, vi i10, vn, vn, vn, vn, vn] [.int t0] (C.2.2.1 + 1 + 6, (C.2.2.1, 6, ob) :: []) (fun v _ => v = (some (.int res))) := by
  delta L_law_b201 at hf
  refine Runs.istore (P' := [vn, vn, vn, vn, vn, vn, vr C.2.2.1, vi i7, vi i8, vi i9, vi i10, vi t0, vn, vn, vn, vn]) d0_201 (by decide) rfl <| Runs.aload d0_203 rfl <| Runs.iload d0_205 rfl <| ?_
  refine bind_el hf fun r1 hg2 hf => ?_
  refine Runs.callV (N := B15) (W := 0) (as := [.int i8]) (S' := []) d0_207 w99 w100 w101 w102 cw15 ar15 rk0_15_0 (by decide) rfl rfl (X_read_pay hg2) <| ans1 <| Runs.iload d0_210 rfl <| ?_
  refine ite_el hf (fun hc3 hf => ?_) (fun hc3 hf => ?_)
  · refine Runs.icY (pc' := 217) d0_212 (teq hc3).1 (by decide) <| ?_
    refine Runs.aload d0_217 rfl <| Runs.iconst d0_219 ci_1 <| Runs.iload d0_220 rfl <| ?_
    refine bind_el hf fun r4 hg5 hf => ?_
    refine Runs.callV (N := B19) (W := 0) (as := [.int (1 : Int32), .int i8]) (S' := []) d0_222 w118 w119 w120 w121 cw19 ar19 rk0_19_0 (by decide) rfl rfl (X_peek_pay hg5) <| ans1 <| Runs.iload d0_225 rfl <| ?_
    refine ite_el hf (fun hc6 hf => ?_) (fun hc6 hf => ?_)
    · refine Runs.icY (pc' := 232) d0_227 (teq hc6).1 (by decide) <| ?_
      refine Runs.aload d0_232 rfl <| Runs.iload d0_234 rfl <| ?_
      refine bind_el hf fun r7 hg8 hf => ?_
      refine Runs.callV (N := B20) (W := 0) (as := [.int i8]) (S' := []) d0_236 w123 w124 w125 w126 cw20 ar20 rk0_20_0 (by decide) rfl rfl (X_ackedValue_pay hg8) <| ans1 <| Runs.iload d0_239 rfl <| ?_
      refine ite_el hf (fun hc9 hf => ?_) (fun hc9 hf => ?_)
      · refine Runs.icY (pc' := 246) d0_241 (teq hc9).1 (by decide) <| ?_
        refine Runs.aload d0_246 rfl <| ?_
        refine bind2_el hf fun r10 q11 hg12 hf => ?_
        refine Runs.callV (N := B21) (W := 0) (as := []) (S' := []) d0_248 w128 w129 w130 w131 cw21 ar21 rk0_21_0 (by decide) rfl rfl (X_resync_pay hg12) <| ans1 <| ?_
        refine ite_el hf (fun hc13 hf => ?_) (fun hc13 hf => ?_)
        · refine Runs.ifY (pc' := 256) d0_251 (teq hc13).1 (by decide) <| ?_
          refine Runs.aload d0_256 rfl <| Runs.iconst d0_258 ci_1 <| ?_
          refine bind_el hf fun r14 hg15 hf => ?_
          refine Runs.callV (N := B17) (W := 0) (as := [.int (1 : Int32)]) (S' := []) d0_259 w109 w110 w111 w112 cw17 ar17 rk0_17_0 (by decide) rfl rfl (X_legState_pay hg15) <| ans1 <| ?_
          refine ite_el hf (fun hc16 hf => ?_) (fun hc16 hf => ?_)
          · refine Runs.ifY (pc' := 267) d0_262 (teq hc16).1 (by decide) <| ?_
            refine Runs.aload d0_267 rfl <| Runs.iload d0_269 rfl <| ?_
            refine bind_el hf fun r17 hg18 hf => ?_
            refine Runs.callV (N := B15) (W := 0) (as := [.int i8]) (S' := []) d0_271 w99 w100 w101 w102 cw15 ar15 rk0_15_0 (by decide) rfl rfl (X_read_pay hg18) <| ans1 <| Runs.iload d0_274 rfl <| ?_
            refine ite_el hf (fun hc19 hf => ?_) (fun hc19 hf => ?_)
            · refine Runs.icY (pc' := 281) d0_276 (teq hc19).1 (by decide) <| ?_
              exact Runs.iconst d0_281 ci_0 <| Runs.istore (P' := [vn, vn, vn, vn, vn, vn, vr C.2.2.1, vi i7, vi i8, vi i9, vi i10, vi t0, vi (0 : Int32), vn, vn, vn]) d0_282 (by decide) rfl <| Runs.forget [false, false, false, false, false, false, true, true, true, true, true, false, true, false, false, false] rfl <| L_law_l284_p NF q11 i7 i8 i9 i10 (0 : Int32) hf
            · refine Runs.icN d0_276 (feq hc19).1 <| ?_
              obtain rfl := Option.some.inj hf
              exact Runs.iconst d0_279 ci_0 <| Runs.retZ (y := (0 : Int32)) d0_280 rfl ⟨by decide, by decide⟩ rfl rfl
          · refine Runs.ifN d0_262 (feq hc16).1 <| ?_
            obtain rfl := Option.some.inj hf
            exact Runs.iconst d0_265 ci_0 <| Runs.retZ (y := (0 : Int32)) d0_266 rfl ⟨by decide, by decide⟩ rfl rfl
        · refine Runs.ifN d0_251 (feq hc13).1 <| ?_
          obtain rfl := Option.some.inj hf
          exact Runs.iconst d0_254 ci_0 <| Runs.retZ (y := (0 : Int32)) d0_255 rfl ⟨by decide, by decide⟩ rfl rfl
      · refine Runs.icN d0_241 (feq hc9).1 <| ?_
        obtain rfl := Option.some.inj hf
        exact Runs.iconst d0_244 ci_0 <| Runs.retZ (y := (0 : Int32)) d0_245 rfl ⟨by decide, by decide⟩ rfl rfl
    · refine Runs.icN d0_227 (feq hc6).1 <| ?_
      obtain rfl := Option.some.inj hf
      exact Runs.iconst d0_230 ci_0 <| Runs.retZ (y := (0 : Int32)) d0_231 rfl ⟨by decide, by decide⟩ rfl rfl
  · refine Runs.icN d0_212 (feq hc3).1 <| ?_
    obtain rfl := Option.some.inj hf
    exact Runs.iconst d0_215 ci_0 <| Runs.retZ (y := (0 : Int32)) d0_216 rfl ⟨by decide, by decide⟩ rfl rfl
def L_law (NF : Nat) (i0 : Int32) (i1 : Int32) (i2 : Int32) (i3 : Int32) (i4 : Int32) (i5 : Int32) : Option (Int32) :=
  (X_init (8 : Int32) i0 i1).bind fun q29 =>
  bind2 (X_write q29 (i2 &&& (7 : Int32)) (i4 &&& (65535 : Int32))) fun r31 q32 =>
  if r31 = (0 : Int32) then
    bind2 (X_step NF q32) fun r35 q36 =>
    if r35 = (1 : Int32) then
      bind2 (X_step NF q36) fun r39 q40 =>
      if r39 = (2 : Int32) then
        bind2 (X_step NF q40) fun r43 q44 =>
        if r43 = (3 : Int32) then
          bind2 (X_write q44 (i3 &&& (7 : Int32)) (i5 &&& (65535 : Int32))) fun r47 q48 =>
          if r47 = (0 : Int32) then
            bind2 (X_step NF q48) fun r51 q52 =>
            if r51 = (1 : Int32) then
              bind2 (X_crash q52) fun r55 q56 =>
              if r55 = (0 : Int32) then
                (X_pendingBlock q56).bind fun r59 =>
                if r59 = (-1 : Int32) then
                  (X_isDown q56).bind fun r62 =>
                  if r62 = (0 : Int32) then
                    some (0 : Int32)
                  else
                    (X_read q56 (i3 &&& (7 : Int32))).bind fun r65 =>
                    if r65 = (-1 : Int32) then
                      bind2 (X_restart q56) fun r68 q69 =>
                      if r68 = (0 : Int32) then
                        (X_legState q69 (0 : Int32)).bind fun r72 =>
                        if r72 = (0 : Int32) then
                          (X_legState q69 (1 : Int32)).bind fun r75 =>
                          if r75 = (1 : Int32) then
                            if (i2 &&& (7 : Int32)) = (i3 &&& (7 : Int32)) then
                              L_law_b201 NF q69 (i2 &&& (7 : Int32)) (i3 &&& (7 : Int32)) (i4 &&& (65535 : Int32)) (i5 &&& (65535 : Int32)) (i4 &&& (65535 : Int32))
                            else
                              L_law_b201 NF q69 (i2 &&& (7 : Int32)) (i3 &&& (7 : Int32)) (i4 &&& (65535 : Int32)) (i5 &&& (65535 : Int32)) (0 : Int32)
                          else
                            some (0 : Int32)
                        else
                          some (0 : Int32)
                      else
                        some (0 : Int32)
                    else
                      some (0 : Int32)
                else
                  some (0 : Int32)
              else
                some (0 : Int32)
            else
              some (0 : Int32)
          else
            some (0 : Int32)
        else
          some (0 : Int32)
      else
        some (0 : Int32)
    else
      some (0 : Int32)
  else
    some (0 : Int32)
set_option maxRecDepth 65536 in
set_option maxHeartbeats 4000000 in
theorem L_law_p {C : Ctx} {res : Int32} {NF : Nat} (i0 : Int32) (i1 : Int32) (i2 : Int32) (i3 : Int32) (i4 : Int32) (i5 : Int32) (hf : L_law NF i0 i1 i2 i3 i4 i5 = some res) : Runs C B0 0 0 0 [vi i0, vi i1, vi i2, vi i3, vi i4, vi i5, vn, vn, vn, vn, vn, vn, vn, vn, vn, vn] [] (C.2.2.1, []) (fun v _ => v = (some (.int res))) := by
  delta L_law at hf
  refine Runs.newK (k' := 1) (n' := 15) d0_0 w0 ⟨by decide, by decide⟩ rfl rfl (by intro x hx; cases hx) <| Runs.dup d0_3 rfl <| Runs.bipush d0_4 cb_8 <| Runs.iloadN d0_6 rfl <| Runs.iloadN d0_7 rfl <| ?_
  refine bind_el hf fun q29 hg30 hf => ?_
  refine Runs.callI (N := B1) (k' := 7) (n' := 209) (W := 1) (as := [.int (8 : Int32), .int i0, .int i1]) (S' := [.ref C.2.2.1]) d0_8 rfl rfl w3 w4 cw1 ar1 (by decide) rfl rfl rfl rfl (X_init_pay hg30) <| ans0 <| Runs.astore (P' := [vi i0, vi i1, vi i2, vi i3, vi i4, vi i5, vr C.2.2.1, vn, vn, vn, vn, vn, vn, vn, vn, vn]) d0_11 (by decide) rfl <| Runs.iloadN d0_13 rfl <| Runs.bipush d0_14 cb_7 <| Runs.iand d0_16 <| Runs.istore (P' := [vi i0, vi i1, vi i2, vi i3, vi i4, vi i5, vr C.2.2.1, vi (i2 &&& (7 : Int32)), vn, vn, vn, vn, vn, vn, vn, vn]) d0_17 (by decide) rfl <| Runs.iloadN d0_19 rfl <| Runs.bipush d0_20 cb_7 <| Runs.iand d0_22 <| Runs.istore (P' := [vi i0, vi i1, vi i2, vi i3, vi i4, vi i5, vr C.2.2.1, vi (i2 &&& (7 : Int32)), vi (i3 &&& (7 : Int32)), vn, vn, vn, vn, vn, vn, vn]) d0_23 (by decide) rfl <| Runs.iload d0_25 rfl <| Runs.ldc d0_27 w44 <| ?_
  refine Runs.iand d0_29 <| Runs.istore (P' := [vi i0, vi i1, vi i2, vi i3, vi i4, vi i5, vr C.2.2.1, vi (i2 &&& (7 : Int32)), vi (i3 &&& (7 : Int32)), vi (i4 &&& (65535 : Int32)), vn, vn, vn, vn, vn, vn]) d0_30 (by decide) rfl <| Runs.iload d0_32 rfl <| Runs.ldc d0_34 w44 <| Runs.iand d0_36 <| Runs.istore (P' := [vi i0, vi i1, vi i2, vi i3, vi i4, vi i5, vr C.2.2.1, vi (i2 &&& (7 : Int32)), vi (i3 &&& (7 : Int32)), vi (i4 &&& (65535 : Int32)), vi (i5 &&& (65535 : Int32)), vn, vn, vn, vn, vn]) d0_37 (by decide) rfl <| Runs.aload d0_39 rfl <| Runs.iload d0_41 rfl <| Runs.iload d0_43 rfl <| ?_
  refine bind2_el hf fun r31 q32 hg33 hf => ?_
  refine Runs.callV (N := B3) (W := 0) (as := [.int (i2 &&& (7 : Int32)), .int (i4 &&& (65535 : Int32))]) (S' := []) d0_45 w45 w46 w47 w48 cw3 ar3 rk0_3_0 (by decide) rfl rfl (X_write_pay hg33) <| ans1 <| ?_
  refine ite_el hf (fun hc34 hf => ?_) (fun hc34 hf => ?_)
  · refine Runs.ifY (pc' := 53) d0_48 (teq hc34).1 (by decide) <| ?_
    refine Runs.aload d0_53 rfl <| ?_
    refine bind2_el hf fun r35 q36 hg37 hf => ?_
    refine Runs.callV (N := B6) (W := 0) (as := []) (S' := []) d0_55 w59 w60 w61 w62 cw6 ar6 rk0_6_0 (by decide) rfl rfl (X_step_pay hg37) <| ans1 <| Runs.iconst d0_58 ci_1 <| ?_
    refine ite_el hf (fun hc38 hf => ?_) (fun hc38 hf => ?_)
    · refine Runs.icY (pc' := 64) d0_59 (teq hc38).1 (by decide) <| ?_
      refine Runs.aload d0_64 rfl <| ?_
      refine bind2_el hf fun r39 q40 hg41 hf => ?_
      refine Runs.callV (N := B6) (W := 0) (as := []) (S' := []) d0_66 w59 w60 w61 w62 cw6 ar6 rk0_6_0 (by decide) rfl rfl (X_step_pay hg41) <| ans1 <| Runs.iconst d0_69 ci_2 <| ?_
      refine ite_el hf (fun hc42 hf => ?_) (fun hc42 hf => ?_)
      · refine Runs.icY (pc' := 75) d0_70 (teq hc42).1 (by decide) <| ?_
        refine Runs.aload d0_75 rfl <| ?_
        refine bind2_el hf fun r43 q44 hg45 hf => ?_
        refine Runs.callV (N := B6) (W := 0) (as := []) (S' := []) d0_77 w59 w60 w61 w62 cw6 ar6 rk0_6_0 (by decide) rfl rfl (X_step_pay hg45) <| ans1 <| Runs.iconst d0_80 ci_3 <| ?_
        refine ite_el hf (fun hc46 hf => ?_) (fun hc46 hf => ?_)
        · refine Runs.icY (pc' := 86) d0_81 (teq hc46).1 (by decide) <| ?_
          refine Runs.aload d0_86 rfl <| Runs.iload d0_88 rfl <| Runs.iload d0_90 rfl <| ?_
          refine bind2_el hf fun r47 q48 hg49 hf => ?_
          refine Runs.callV (N := B3) (W := 0) (as := [.int (i3 &&& (7 : Int32)), .int (i5 &&& (65535 : Int32))]) (S' := []) d0_92 w45 w46 w47 w48 cw3 ar3 rk0_3_0 (by decide) rfl rfl (X_write_pay hg49) <| ans1 <| ?_
          refine ite_el hf (fun hc50 hf => ?_) (fun hc50 hf => ?_)
          · refine Runs.ifY (pc' := 100) d0_95 (teq hc50).1 (by decide) <| ?_
            refine Runs.aload d0_100 rfl <| ?_
            refine bind2_el hf fun r51 q52 hg53 hf => ?_
            refine Runs.callV (N := B6) (W := 0) (as := []) (S' := []) d0_102 w59 w60 w61 w62 cw6 ar6 rk0_6_0 (by decide) rfl rfl (X_step_pay hg53) <| ans1 <| Runs.iconst d0_105 ci_1 <| ?_
            refine ite_el hf (fun hc54 hf => ?_) (fun hc54 hf => ?_)
            · refine Runs.icY (pc' := 111) d0_106 (teq hc54).1 (by decide) <| ?_
              refine Runs.aload d0_111 rfl <| ?_
              refine bind2_el hf fun r55 q56 hg57 hf => ?_
              refine Runs.callV (N := B12) (W := 0) (as := []) (S' := []) d0_113 w84 w85 w86 w87 cw12 ar12 rk0_12_0 (by decide) rfl rfl (X_crash_pay hg57) <| ans1 <| ?_
              refine ite_el hf (fun hc58 hf => ?_) (fun hc58 hf => ?_)
              · refine Runs.ifY (pc' := 121) d0_116 (teq hc58).1 (by decide) <| ?_
                refine Runs.aload d0_121 rfl <| ?_
                refine bind_el hf fun r59 hg60 hf => ?_
                refine Runs.callV (N := B13) (W := 0) (as := []) (S' := []) d0_123 w89 w90 w91 w92 cw13 ar13 rk0_13_0 (by decide) rfl rfl (X_pendingBlock_pay hg60) <| ans1 <| Runs.iconst d0_126 ci_m1 <| ?_
                refine ite_el hf (fun hc61 hf => ?_) (fun hc61 hf => ?_)
                · refine Runs.icY (pc' := 132) d0_127 (teq hc61).1 (by decide) <| ?_
                  refine Runs.aload d0_132 rfl <| ?_
                  refine bind_el hf fun r62 hg63 hf => ?_
                  refine Runs.callV (N := B14) (W := 0) (as := []) (S' := []) d0_134 w94 w95 w96 w97 cw14 ar14 rk0_14_0 (by decide) rfl rfl (X_isDown_pay hg63) <| ans1 <| ?_
                  refine ite_el hf (fun hc64 hf => ?_) (fun hc64 hf => ?_)
                  · refine Runs.ifN d0_137 (teq hc64).2 <| ?_
                    obtain rfl := Option.some.inj hf
                    exact Runs.iconst d0_140 ci_0 <| Runs.retZ (y := (0 : Int32)) d0_141 rfl ⟨by decide, by decide⟩ rfl rfl
                  · refine Runs.ifY (pc' := 142) d0_137 (feq hc64).2 (by decide) <| ?_
                    refine Runs.aload d0_142 rfl <| Runs.iload d0_144 rfl <| ?_
                    refine bind_el hf fun r65 hg66 hf => ?_
                    refine Runs.callV (N := B15) (W := 0) (as := [.int (i3 &&& (7 : Int32))]) (S' := []) d0_146 w99 w100 w101 w102 cw15 ar15 rk0_15_0 (by decide) rfl rfl (X_read_pay hg66) <| ans1 <| Runs.iconst d0_149 ci_m1 <| ?_
                    refine ite_el hf (fun hc67 hf => ?_) (fun hc67 hf => ?_)
                    · refine Runs.icY (pc' := 155) d0_150 (teq hc67).1 (by decide) <| ?_
                      refine Runs.aload d0_155 rfl <| ?_
                      refine bind2_el hf fun r68 q69 hg70 hf => ?_
                      refine Runs.callV (N := B16) (W := 0) (as := []) (S' := []) d0_157 w104 w105 w106 w107 cw16 ar16 rk0_16_0 (by decide) rfl rfl (X_restart_pay hg70) <| ans1 <| ?_
                      refine ite_el hf (fun hc71 hf => ?_) (fun hc71 hf => ?_)
                      · refine Runs.ifY (pc' := 165) d0_160 (teq hc71).1 (by decide) <| ?_
                        refine Runs.aload d0_165 rfl <| Runs.iconst d0_167 ci_0 <| ?_
                        refine bind_el hf fun r72 hg73 hf => ?_
                        refine Runs.callV (N := B17) (W := 0) (as := [.int (0 : Int32)]) (S' := []) d0_168 w109 w110 w111 w112 cw17 ar17 rk0_17_0 (by decide) rfl rfl (X_legState_pay hg73) <| ans1 <| ?_
                        refine ite_el hf (fun hc74 hf => ?_) (fun hc74 hf => ?_)
                        · refine Runs.ifY (pc' := 176) d0_171 (teq hc74).1 (by decide) <| ?_
                          refine Runs.aload d0_176 rfl <| Runs.iconst d0_178 ci_1 <| ?_
                          refine bind_el hf fun r75 hg76 hf => ?_
                          refine Runs.callV (N := B17) (W := 0) (as := [.int (1 : Int32)]) (S' := []) d0_179 w109 w110 w111 w112 cw17 ar17 rk0_17_0 (by decide) rfl rfl (X_legState_pay hg76) <| ans1 <| Runs.iconst d0_182 ci_1 <| ?_
                          refine ite_el hf (fun hc77 hf => ?_) (fun hc77 hf => ?_)
                          · refine Runs.icY (pc' := 188) d0_183 (teq hc77).1 (by decide) <| ?_
                            refine Runs.iload d0_188 rfl <| Runs.iload d0_190 rfl <| ?_
                            refine ite_el hf (fun hc78 hf => ?_) (fun hc78 hf => ?_)
                            · refine Runs.icN d0_192 (teq hc78).2 <| ?_
                              exact Runs.iload d0_195 rfl <| Runs.goto (pc' := 201) d0_197 (by decide) <| Runs.forget [false, false, false, false, false, false, true, true, true, true, true, false, false, false, false, false] rfl <| L_law_b201_p q69 (i2 &&& (7 : Int32)) (i3 &&& (7 : Int32)) (i4 &&& (65535 : Int32)) (i5 &&& (65535 : Int32)) (i4 &&& (65535 : Int32)) hf
                            · refine Runs.icY (pc' := 200) d0_192 (feq hc78).2 (by decide) <| ?_
                              exact Runs.iconst d0_200 ci_0 <| Runs.forget [false, false, false, false, false, false, true, true, true, true, true, false, false, false, false, false] rfl <| L_law_b201_p q69 (i2 &&& (7 : Int32)) (i3 &&& (7 : Int32)) (i4 &&& (65535 : Int32)) (i5 &&& (65535 : Int32)) (0 : Int32) hf
                          · refine Runs.icN d0_183 (feq hc77).1 <| ?_
                            obtain rfl := Option.some.inj hf
                            exact Runs.iconst d0_186 ci_0 <| Runs.retZ (y := (0 : Int32)) d0_187 rfl ⟨by decide, by decide⟩ rfl rfl
                        · refine Runs.ifN d0_171 (feq hc74).1 <| ?_
                          obtain rfl := Option.some.inj hf
                          exact Runs.iconst d0_174 ci_0 <| Runs.retZ (y := (0 : Int32)) d0_175 rfl ⟨by decide, by decide⟩ rfl rfl
                      · refine Runs.ifN d0_160 (feq hc71).1 <| ?_
                        obtain rfl := Option.some.inj hf
                        exact Runs.iconst d0_163 ci_0 <| Runs.retZ (y := (0 : Int32)) d0_164 rfl ⟨by decide, by decide⟩ rfl rfl
                    · refine Runs.icN d0_150 (feq hc67).1 <| ?_
                      obtain rfl := Option.some.inj hf
                      exact Runs.iconst d0_153 ci_0 <| Runs.retZ (y := (0 : Int32)) d0_154 rfl ⟨by decide, by decide⟩ rfl rfl
                · refine Runs.icN d0_127 (feq hc61).1 <| ?_
                  obtain rfl := Option.some.inj hf
                  exact Runs.iconst d0_130 ci_0 <| Runs.retZ (y := (0 : Int32)) d0_131 rfl ⟨by decide, by decide⟩ rfl rfl
              · refine Runs.ifN d0_116 (feq hc58).1 <| ?_
                obtain rfl := Option.some.inj hf
                exact Runs.iconst d0_119 ci_0 <| Runs.retZ (y := (0 : Int32)) d0_120 rfl ⟨by decide, by decide⟩ rfl rfl
            · refine Runs.icN d0_106 (feq hc54).1 <| ?_
              obtain rfl := Option.some.inj hf
              exact Runs.iconst d0_109 ci_0 <| Runs.retZ (y := (0 : Int32)) d0_110 rfl ⟨by decide, by decide⟩ rfl rfl
          · refine Runs.ifN d0_95 (feq hc50).1 <| ?_
            obtain rfl := Option.some.inj hf
            exact Runs.iconst d0_98 ci_0 <| Runs.retZ (y := (0 : Int32)) d0_99 rfl ⟨by decide, by decide⟩ rfl rfl
        · refine Runs.icN d0_81 (feq hc46).1 <| ?_
          obtain rfl := Option.some.inj hf
          exact Runs.iconst d0_84 ci_0 <| Runs.retZ (y := (0 : Int32)) d0_85 rfl ⟨by decide, by decide⟩ rfl rfl
      · refine Runs.icN d0_70 (feq hc42).1 <| ?_
        obtain rfl := Option.some.inj hf
        exact Runs.iconst d0_73 ci_0 <| Runs.retZ (y := (0 : Int32)) d0_74 rfl ⟨by decide, by decide⟩ rfl rfl
    · refine Runs.icN d0_59 (feq hc38).1 <| ?_
      obtain rfl := Option.some.inj hf
      exact Runs.iconst d0_62 ci_0 <| Runs.retZ (y := (0 : Int32)) d0_63 rfl ⟨by decide, by decide⟩ rfl rfl
  · refine Runs.ifN d0_48 (feq hc34).1 <| ?_
    obtain rfl := Option.some.inj hf
    exact Runs.iconst d0_51 ci_0 <| Runs.retZ (y := (0 : Int32)) d0_52 rfl ⟨by decide, by decide⟩ rfl rfl
theorem L_law_pay {C : Ctx} {res : Int32} {NF : Nat} {i0 : Int32} {i1 : Int32} {i2 : Int32} {i3 : Int32} {i4 : Int32} {i5 : Int32} (hf : L_law NF i0 i1 i2 i3 i4 i5 = some res) : Pays C B0 [.int i0, .int i1, .int i2, .int i3, .int i4, .int i5] (C.2.2.1, []) (fun v _ => v = (some (.int res))) :=
  Pays.of pnL (Nat.le_of_ble_eq_true rfl) (P := [vi i0, vi i1, vi i2, vi i3, vi i4, vi i5, vn, vn, vn, vn, vn, vn, vn, vn, vn, vn]) 10 rfl (L_law_p i0 i1 i2 i3 i4 i5 hf)
--OWED--
theorem gI_sI (ob : Rec) (k j : Nat) (v : Int32) : gI (sI ob k v) j = if j = k then v else gI ob j := rfl
theorem gI_sA (ob : Rec) (k j : Nat) (i v : Int32) : gI (sA ob k i v) j = gI ob j := rfl
theorem gI_sJ (ob : Rec) (k j : Nat) (i : Int32) (v : Int64) : gI (sJ ob k i v) j = gI ob j := rfl
theorem gA_sI (ob : Rec) (k j : Nat) (v x : Int32) : gA (sI ob k v) j x = gA ob j x := rfl
theorem gA_sA (ob : Rec) (k j : Nat) (i v x : Int32) : gA (sA ob k i v) j x = if j = k ∧ x = i then v else gA ob j x := rfl
theorem gA_sJ (ob : Rec) (k j : Nat) (i x : Int32) (v : Int64) : gA (sJ ob k i v) j x = gA ob j x := rfl
theorem gJ_sI (ob : Rec) (k j : Nat) (v x : Int32) : gJ (sI ob k v) j x = gJ ob j x := rfl
theorem gJ_sA (ob : Rec) (k j : Nat) (i v x : Int32) : gJ (sA ob k i v) j x = gJ ob j x := rfl
theorem gJ_sJ (ob : Rec) (k j : Nat) (i x : Int32) (v : Int64) : gJ (sJ ob k i v) j x = if j = k ∧ x = i then v else gJ ob j x := rfl
theorem gI_z (k : Nat) : gI zrec k = 0 := rfl
theorem gA_z (k : Nat) (i : Int32) : gA zrec k i = 0 := rfl
theorem gJ_z (k : Nat) (i : Int32) : gJ zrec k i = 0 := rfl
theorem chk_ok {γ : Type} {n i : Int32} {A : Option γ} (h : 0 ≤ i.toInt ∧ i.toInt < n.toInt) : chk n i A = A := by
  have h0 : ¬ i < 0 := by rw [Int32.lt_iff_toInt_lt]; show ¬ i.toInt < 0; omega
  have h1 : i < n := by rw [Int32.lt_iff_toInt_lt]; exact h.2
  unfold chk; rw [if_neg h0, if_pos h1]
theorem lt_i {x y : Int32} : x < y ↔ x.toInt < y.toInt := Int32.lt_iff_toInt_lt
theorem le_i {x y : Int32} : x ≤ y ↔ x.toInt ≤ y.toInt := Int32.le_iff_toInt_le
theorem eq_i32 {x y : Int32} : x = y ↔ x.toInt = y.toInt := Int32.toInt_inj.symm
theorem bm_id {n : Int} (h : -2147483648 ≤ n ∧ n < 2147483648) : n.bmod (2 ^ 32) = n := Int.bmod_eq_of_le (by omega) (by omega)
theorem ad {x y : Int32} (h : -2147483648 ≤ x.toInt + y.toInt ∧ x.toInt + y.toInt < 2147483648) : (x + y).toInt = x.toInt + y.toInt := by rw [Int32.toInt_add, bm_id h]
theorem sb {x y : Int32} (h : -2147483648 ≤ x.toInt - y.toInt ∧ x.toInt - y.toInt < 2147483648) : (x - y).toInt = x.toInt - y.toInt := by rw [Int32.toInt_sub, bm_id h]
theorem ml {x y : Int32} (h : -2147483648 ≤ x.toInt * y.toInt ∧ x.toInt * y.toInt < 2147483648) : (x * y).toInt = x.toInt * y.toInt := by rw [Int32.toInt_mul, bm_id h]
theorem bind2_some {α β γ : Type} (a : α) (b : β) (f : α → β → Option γ) : bind2 (some (a, b)) f = f a b := rfl
theorem and_b (x m : Int32) (k : Nat) (hm : m.toBitVec.toNat = k) (hk : k < 2147483648) : 0 ≤ (x &&& m).toInt ∧ (x &&& m).toInt ≤ (k : Int) := by
  have h1 : (x &&& m).toBitVec.toNat = x.toBitVec.toNat &&& m.toBitVec.toNat := by rw [Int32.toBitVec_and, BitVec.toNat_and]
  have h2 : (x &&& m).toBitVec.toNat ≤ k := by rw [h1, hm]; exact Nat.and_le_right
  have h3 : (x &&& m).toInt = ((x &&& m).toBitVec.toNat : Int) := by
    show (x &&& m).toBitVec.toInt = _
    exact BitVec.toInt_eq_toNat_of_lt (by omega)
  rw [h3]; omega
theorem mem8 (x : Int32) : (x &&& 7) ∈ ([0, 1, 2, 3, 4, 5, 6, 7] : List Int32) := by
  have h := and_b x 7 7 rfl (by omega)
  simp only [List.mem_cons, eq_i32, Int32.reduceToInt, List.not_mem_nil, or_false]
  omega
theorem mem2 (x : Int32) : (x &&& 1) ∈ ([0, 1] : List Int32) := by
  have h := and_b x 1 1 rfl (by omega)
  simp only [List.mem_cons, eq_i32, Int32.reduceToInt, List.not_mem_nil, or_false]
  omega
-- USE: bits
theorem t0 : (0 : Int32).toInt = 0 := rfl
theorem t1 : (1 : Int32).toInt = 1 := rfl
theorem t2 : (2 : Int32).toInt = 2 := rfl
theorem t8 : (8 : Int32).toInt = 8 := rfl
theorem t32 : (32 : Int32).toInt = 32 := rfl
theorem t64 : (64 : Int32).toInt = 64 := rfl
theorem succ8 {i : Int32} (h : 0 ≤ i.toInt ∧ i.toInt < 1000) : (i + 1).toInt = i.toInt + 1 := by rw [ad (by rw [t1]; omega), t1]
abbrev K8 (k : Int32) : Prop := 0 ≤ k.toInt ∧ k.toInt < 8
theorem k8m {x : Int32} (h : K8 x) : x ∈ ([0, 1, 2, 3, 4, 5, 6, 7] : List Int32) := by
  have := h.1; have := h.2
  simp only [List.mem_cons, eq_i32, Int32.reduceToInt, List.not_mem_nil, or_false]
  omega
theorem mk8 {a : Int32} (h : a ∈ ([0, 1, 2, 3, 4, 5, 6, 7] : List Int32)) : K8 a := by
  simp only [List.mem_cons, eq_i32, Int32.reduceToInt, List.not_mem_nil, or_false] at h
  constructor <;> omega
theorem a32 {x : Int32} (h : K8 x) : (32 + x).toInt = 32 + x.toInt := by
  have := h.1; have := h.2
  rw [ad (by rw [t32]; omega), t32]
theorem tabR : ∀ rs ∈ ([1, 2, 3, 4] : List Int32), ∀ x ∈ ([0, 1, 2, 3, 4, 5, 6, 7] : List Int32), (x / rs).toInt < ((8 + rs - 1) / rs).toInt ∧ 0 ≤ (x / rs).toInt ∧ (x / rs * rs).toInt ≤ x.toInt ∧ x.toInt < (x / rs * rs + rs).toInt ∧ 0 ≤ (x * rs).toInt ∧ ((8 + rs - 1) / rs).toInt ≤ 8 ∧ 0 ≤ ((8 + rs - 1) / rs).toInt ∧ ¬ rs = 0 := by decide +kernel
def Rl (ob q : Rec) : Prop := q.1 = ob.1 ∧ (∀ (k : Nat) (x : Int32), ¬ k = 0 → gA q k x = gA ob k x) ∧ (∀ x : Int32, K8 x → gA q 0 x = gA ob 0 x) ∧ (∀ x : Int32, K8 x → gA q 0 (32 + x) = gA ob 0 x ∨ gA q 0 (32 + x) = gA ob 0 (32 + x))
theorem Rl.refl (ob : Rec) : Rl ob ob := ⟨rfl, fun _ _ _ => rfl, fun _ _ => rfl, fun _ _ => Or.inr rfl⟩
theorem Rl.trans {a b c : Rec} (h : Rl a b) (g : Rl b c) : Rl a c := by
  refine ⟨g.1.trans h.1, fun k x hk => (g.2.1 k x hk).trans (h.2.1 k x hk), fun x hx => (g.2.2.1 x hx).trans (h.2.2.1 x hx), fun x hx => ?_⟩
  rcases g.2.2.2 x hx with e | e
  · exact Or.inl (e.trans (h.2.2.1 x hx))
  · rcases h.2.2.2 x hx with e' | e'
    · exact Or.inl (e.trans e')
    · exact Or.inr (e.trans e')
theorem Rl.one (ob : Rec) (i : Int32) (hi : K8 i) : Rl ob (sA ob 0 (32 + i) (gA ob 0 (0 + i))) := by
  have e := a32 hi
  refine ⟨rfl, fun k x hk => ?_, fun x hx => ?_, fun x hx => ?_⟩
  · rw [gA_sA, if_neg (fun h => hk h.1)]
  · rw [gA_sA, if_neg (fun h => ?_)]
    have u := hx.2
    have w := hi.1
    rw [h.2, e] at u
    omega
  · rw [gA_sA]
    by_cases c : x = i
    · rw [c, if_pos ⟨rfl, rfl⟩]; left; rw [Int32.zero_add]
    · rw [if_neg (fun h => c ?_)]
      · exact Or.inr rfl
      · have e' := a32 hx
        rw [h.2, e] at e'
        exact eq_i32.mpr (by omega)
theorem in_l (NF : Nat) (k14 : Rec → Int32 → Int32 → Int32 → Option Rec) (i5 i7 : Int32) (h7 : i7.toInt ≤ 8) : ∀ (m fuel : Nat) (ob : Rec) (i : Int32), m < fuel → 0 ≤ i.toInt → i7.toInt - i.toInt ≤ m → ∃ q, X_copyDirtyRegions_l73 NF k14 fuel ob 0 32 i5 i7 i = k14 q 0 32 (i5 + 1) ∧ Rl ob q ∧ ∀ x, K8 x → i.toInt ≤ x.toInt → x.toInt < i7.toInt → gA q 0 (32 + x) = gA ob 0 x := by
  intro m
  induction m with
  | zero =>
    intro fuel ob i hf h0 h2
    obtain ⟨n, rfl⟩ : ∃ n, fuel = n + 1 := ⟨fuel - 1, by omega⟩
    refine ⟨ob, ?_, Rl.refl ob, fun x _ a b => absurd b (by omega)⟩
    show X_copyDirtyRegions_w73 NF k14 _ ob 0 32 i5 i7 i = _
    unfold X_copyDirtyRegions_w73; rw [if_neg (by rw [lt_i]; omega)]
  | succ m ih =>
    intro fuel ob i hf h0 h2
    obtain ⟨n, rfl⟩ : ∃ n, fuel = n + 1 := ⟨fuel - 1, by omega⟩
    by_cases hc : i.toInt < i7.toInt
    · have hi : K8 i := ⟨h0, by omega⟩
      have ei := succ8 (i := i) (by omega)
      have e32 := a32 hi
      obtain ⟨q, eq, q1, q2⟩ := ih n (sA ob 0 (32 + i) (gA ob 0 (0 + i))) (i + 1) (by omega) (by omega) (by omega)
      have r1 := Rl.one ob i hi
      refine ⟨q, ?_, r1.trans q1, ?_⟩
      · rw [← eq]
        show X_copyDirtyRegions_w73 NF k14 _ ob 0 32 i5 i7 i = _
        have z : (0 + i : Int32).toInt = i.toInt := by rw [Int32.zero_add]
        unfold X_copyDirtyRegions_w73; rw [if_pos (lt_i.mpr hc), chk_ok (by rw [t64, z]; omega), chk_ok (by rw [t64, e32]; omega)]
      · intro x hx a b
        by_cases c : x = i
        · rw [c]
          rcases q1.2.2.2 i hi with e | e
          · rw [e]; exact r1.2.2.1 i hi
          · rw [e, gA_sA, if_pos ⟨rfl, rfl⟩, Int32.zero_add]
        · have hne : x.toInt ≠ i.toInt := fun h => c (eq_i32.mpr h)
          rw [q2 x hx (by omega) b]
          exact r1.2.2.1 x hx
    · refine ⟨ob, ?_, Rl.refl ob, fun x _ a b => absurd b (by omega)⟩
      show X_copyDirtyRegions_w73 NF k14 _ ob 0 32 i5 i7 i = _
      unfold X_copyDirtyRegions_w73; rw [if_neg (by rw [lt_i]; omega)]
theorem out_l (NF : Nat) (hNF : 20 < NF) (rs : Int32) (hrs : rs ∈ ([1, 2, 3, 4] : List Int32)) : ∀ (m fuel : Nat) (ob : Rec) (i5 : Int32), m < fuel → 0 ≤ i5.toInt → ((8 + rs - 1) / rs).toInt - i5.toInt ≤ m → gI ob 0 = 8 → gI ob 1 = rs → gI ob 3 = (8 + rs - 1) / rs → ∃ q, X_copyDirtyRegions_l14 NF fuel ob 0 32 i5 = some q ∧ Rl ob q ∧ ∀ x, K8 x → i5.toInt ≤ (x / rs).toInt → ¬ gA ob 3 (x / rs) = 0 → gA q 0 (32 + x) = gA ob 0 x := by
  have hT := fun x (h : K8 x) => tabR rs hrs x (k8m h)
  intro m
  induction m with
  | zero =>
    intro fuel ob i5 hf h0 h2 g0 g1 g3
    obtain ⟨n, rfl⟩ : ∃ n, fuel = n + 1 := ⟨fuel - 1, by omega⟩
    refine ⟨ob, ?_, Rl.refl ob, fun x hx a _ => ?_⟩
    · show X_copyDirtyRegions_w14 NF _ ob 0 32 i5 = _
      unfold X_copyDirtyRegions_w14; rw [g3, if_neg (by rw [lt_i]; omega)]
    · have := hT x hx; omega
  | succ m ih =>
    intro fuel ob i5 hf h0 h2 g0 g1 g3
    obtain ⟨n, rfl⟩ : ∃ n, fuel = n + 1 := ⟨fuel - 1, by omega⟩
    by_cases hc : i5.toInt < ((8 + rs - 1) / rs).toInt
    · have hR := hT 0 (by decide)
      have h5 : K8 i5 := ⟨h0, by omega⟩
      have ei := succ8 (i := i5) (by omega)
      have c5 : i5 < (8 + rs - 1) / rs := lt_i.mpr hc
      have hi8 := (hT i5 h5).2.2.2.2.1
      by_cases cd : gA ob 3 i5 = 0
      · obtain ⟨q, eq, q1, q2⟩ := ih n ob (i5 + 1) (by omega) (by omega) (by omega) g0 g1 g3
        refine ⟨q, ?_, q1, fun x hx a b => ?_⟩
        · rw [← eq]
          show X_copyDirtyRegions_w14 NF _ ob 0 32 i5 = _
          unfold X_copyDirtyRegions_w14; rw [g3, if_pos c5, chk_ok (by rw [t32]; omega), if_pos cd]
        · have hne : ¬ (x / rs) = i5 := fun h => b (by rw [h]; exact cd)
          have hne' : (x / rs).toInt ≠ i5.toInt := fun h => hne (eq_i32.mpr h)
          exact q2 x hx (by omega) b
      · obtain ⟨i7, h7, h7', e7⟩ : ∃ i7 : Int32, i7.toInt ≤ 8 ∧ (∀ x, K8 x → x.toInt < (i5 * rs + rs).toInt → x.toInt < i7.toInt) ∧ X_copyDirtyRegions_l14 NF (n + 1) ob 0 32 i5 = X_copyDirtyRegions_l73 NF (X_copyDirtyRegions_l14 NF n) NF ob 0 32 i5 i7 (i5 * rs) := by
          by_cases c8 : 8 < i5 * rs + rs
          · refine ⟨8, by decide, fun x hx _ => hx.2, ?_⟩
            show X_copyDirtyRegions_w14 NF _ ob 0 32 i5 = _
            unfold X_copyDirtyRegions_w14; rw [g3, if_pos c5, chk_ok (by rw [t32]; omega), if_neg cd, g0, g1, if_pos c8]
          · refine ⟨i5 * rs + rs, by rw [lt_i, t8] at c8; omega, fun x hx h => h, ?_⟩
            show X_copyDirtyRegions_w14 NF _ ob 0 32 i5 = _
            unfold X_copyDirtyRegions_w14; rw [g3, if_pos c5, chk_ok (by rw [t32]; omega), if_neg cd, g0, g1, if_neg c8]
        obtain ⟨p, ep, p1, p2⟩ := in_l NF (X_copyDirtyRegions_l14 NF n) i5 i7 h7 8 NF ob (i5 * rs) (by omega) hi8 (by omega)
        have pI : ∀ k, gI p k = gI ob k := fun k => by unfold gI; rw [p1.1]
        obtain ⟨q, eq, q1, q2⟩ := ih n p (i5 + 1) (by omega) (by omega) (by omega) ((pI 0).trans g0) ((pI 1).trans g1) ((pI 3).trans g3)
        refine ⟨q, e7.trans (ep.trans eq), p1.trans q1, fun x hx a b => ?_⟩
        by_cases hx5 : (x / rs).toInt = i5.toInt
        · have hx5' : x / rs = i5 := eq_i32.mpr hx5
          have tx := hT x hx
          rw [hx5'] at tx
          have ex := p2 x hx tx.2.2.1 (h7' x hx tx.2.2.2.1)
          rcases q1.2.2.2 x hx with e | e
          · rw [e]; exact p1.2.2.1 x hx
          · rw [e]; exact ex
        · rw [q2 x hx (by omega) (by rw [p1.2.1 3 _ (by decide)]; exact b)]
          exact p1.2.2.1 x hx
    · refine ⟨ob, ?_, Rl.refl ob, fun x hx a _ => ?_⟩
      · show X_copyDirtyRegions_w14 NF _ ob 0 32 i5 = _
        unfold X_copyDirtyRegions_w14; rw [g3, if_neg (by rw [lt_i]; omega)]
      · have := hT x hx; omega
/-- only the bitmap's arrays are touched -/
def Bm (ob q : Rec) : Prop := q.1 = ob.1 ∧ ∀ (k : Nat) (x : Int32), k < 3 → gA q k x = gA ob k x
theorem Bm.refl (ob : Rec) : Bm ob ob := ⟨rfl, fun _ _ _ => rfl⟩
theorem Bm.trans {a b c : Rec} (h : Bm a b) (g : Bm b c) : Bm a c := ⟨g.1.trans h.1, fun k x hk => (g.2 k x hk).trans (h.2 k x hk)⟩
theorem Bm.n {a b : Rec} (h : Bm a b) (k : Nat) : gI b k = gI a k := by unfold gI; rw [h.1]
theorem Bm.set (ob : Rec) (i u v w : Int32) : Bm ob (sA (sA (sA ob 3 i u) 4 i v) 5 i w) := by
  refine ⟨rfl, fun k x hk => ?_⟩
  rw [gA_sA, if_neg (fun h => by have := h.1; omega), gA_sA, if_neg (fun h => by have := h.1; omega), gA_sA, if_neg (fun h => by have := h.1; omega)]
theorem cb_l (NF : Nat) : ∀ (m fuel : Nat) (ob : Rec) (i : Int32), m < fuel → 0 ≤ i.toInt → 32 - i.toInt ≤ m → ∃ q, X_clearBitmap_l2 NF fuel ob i = some q ∧ Bm ob q := by
  intro m
  induction m with
  | zero =>
    intro fuel ob i hf h0 h2
    obtain ⟨n, rfl⟩ : ∃ n, fuel = n + 1 := ⟨fuel - 1, by omega⟩
    refine ⟨ob, ?_, Bm.refl ob⟩
    show X_clearBitmap_w2 NF _ ob i = _
    unfold X_clearBitmap_w2; rw [if_neg (by rw [lt_i, t32]; omega)]
  | succ m ih =>
    intro fuel ob i hf h0 h2
    obtain ⟨n, rfl⟩ : ∃ n, fuel = n + 1 := ⟨fuel - 1, by omega⟩
    by_cases hc : i.toInt < 32
    · have ei := succ8 (i := i) (by omega)
      have c : ∀ A : Option Rec, chk 32 i A = A := fun A => chk_ok (by rw [t32]; omega)
      obtain ⟨q, eq, q1⟩ := ih n (sA (sA (sA ob 3 i 0) 4 i 0) 5 i 0) (i + 1) (by omega) (by omega) (by omega)
      refine ⟨q, ?_, (Bm.set ob i 0 0 0).trans q1⟩
      rw [← eq]
      show X_clearBitmap_w2 NF _ ob i = _
      unfold X_clearBitmap_w2; rw [if_pos (by rw [lt_i, t32]; omega), c, c, c]
    · refine ⟨ob, ?_, Bm.refl ob⟩
      show X_clearBitmap_w2 NF _ ob i = _
      unfold X_clearBitmap_w2; rw [if_neg (by rw [lt_i, t32]; omega)]
theorem ca_l (NF : Nat) (nR : Int32) (hR : nR.toInt ≤ 8) : ∀ (m fuel : Nat) (ob : Rec) (i : Int32), m < fuel → 0 ≤ i.toInt → nR.toInt - i.toInt ≤ m → gI ob 3 = nR → ∃ q, X_clearAged_l2 NF fuel ob i = some q ∧ Bm ob q := by
  intro m
  induction m with
  | zero =>
    intro fuel ob i hf h0 h2 g3
    obtain ⟨n, rfl⟩ : ∃ n, fuel = n + 1 := ⟨fuel - 1, by omega⟩
    refine ⟨ob, ?_, Bm.refl ob⟩
    show X_clearAged_w2 NF _ ob i = _
    unfold X_clearAged_w2; rw [g3, if_neg (by rw [lt_i]; omega)]
  | succ m ih =>
    intro fuel ob i hf h0 h2 g3
    obtain ⟨n, rfl⟩ : ∃ n, fuel = n + 1 := ⟨fuel - 1, by omega⟩
    by_cases hc : i.toInt < nR.toInt
    · have ei := succ8 (i := i) (by omega)
      have c : ∀ A : Option Rec, chk 32 i A = A := fun A => chk_ok (by rw [t32]; omega)
      have key : ∀ ob1, Bm ob ob1 → X_clearAged_l2 NF (n + 1) ob i = X_clearAged_l2 NF n ob1 (i + 1) → ∃ q, X_clearAged_l2 NF (n + 1) ob i = some q ∧ Bm ob q := by
        intro ob1 b1 e1
        obtain ⟨q, eq, q1⟩ := ih n ob1 (i + 1) (by omega) (by omega) (by omega) ((b1.n 3).trans g3)
        exact ⟨q, e1.trans eq, b1.trans q1⟩
      by_cases c1 : gA ob 3 i = 0
      · refine key ob (Bm.refl ob) ?_
        show X_clearAged_w2 NF _ ob i = _
        unfold X_clearAged_w2; rw [g3, if_pos (lt_i.mpr hc), c, if_pos c1]
      · by_cases c2 : gA ob 4 i = 0
        · refine key ob (Bm.refl ob) ?_
          show X_clearAged_w2 NF _ ob i = _
          unfold X_clearAged_w2; rw [g3, if_pos (lt_i.mpr hc), c, if_neg c1, c, if_pos c2]
        · by_cases c3 : gA ob 5 i < gI ob 2
          · refine key ob (Bm.refl ob) ?_
            show X_clearAged_w2 NF _ ob i = _
            unfold X_clearAged_w2; rw [g3, if_pos (lt_i.mpr hc), c, if_neg c1, c, if_neg c2, c, if_pos c3]
          · refine key _ (Bm.set ob i 0 0 0) ?_
            show X_clearAged_w2 NF _ ob i = _
            unfold X_clearAged_w2; rw [g3, if_pos (lt_i.mpr hc), c, if_neg c1, c, if_neg c2, c, if_neg c3, c, c, c]
    · refine ⟨ob, ?_, Bm.refl ob⟩
      show X_clearAged_w2 NF _ ob i = _
      unfold X_clearAged_w2; rw [g3, if_neg (by rw [lt_i]; omega)]
theorem ao_l (NF : Nat) (ob : Rec) (r : Int32) (hz : ∀ j, gA ob 4 j = 0) (hR : (gI ob 3).toInt ≤ 8) : ∀ (m fuel : Nat) (i : Int32), m < fuel → 0 ≤ i.toInt → (gI ob 3).toInt - i.toInt ≤ m → X_ageOthers_l2 NF fuel ob r i = some ob := by
  intro m
  induction m with
  | zero =>
    intro fuel i hf h0 h2
    obtain ⟨n, rfl⟩ : ∃ n, fuel = n + 1 := ⟨fuel - 1, by omega⟩
    show X_ageOthers_w2 NF _ ob r i = _
    unfold X_ageOthers_w2; rw [if_neg (by rw [lt_i]; omega)]
  | succ m ih =>
    intro fuel i hf h0 h2
    obtain ⟨n, rfl⟩ : ∃ n, fuel = n + 1 := ⟨fuel - 1, by omega⟩
    show X_ageOthers_w2 NF _ ob r i = _
    unfold X_ageOthers_w2
    by_cases hc : i.toInt < (gI ob 3).toInt
    · have ei := succ8 (i := i) (by omega)
      have e := ih n (i + 1) (by omega) (by omega) (by omega)
      rw [if_pos (lt_i.mpr hc), chk_ok (by rw [t32]; omega), if_pos (hz i), e]
      split <;> rfl
    · rw [if_neg (by rw [lt_i]; omega)]
theorem vb_e {ob : Rec} {b : Int32} (h0 : gI ob 0 = 8) (hb : K8 b) : X_validBlock ob b = some 1 := by
  have := hb.1; have := hb.2
  unfold X_validBlock; rw [h0, if_neg (by rw [lt_i, t0]; omega), if_pos (by rw [lt_i, t8]; omega)]
def wr (ob : Rec) (r b v : Int32) : Rec := sI (sI (sI (sI (sA (sA (sA ob 3 r 1) 4 r 0) 5 r 0) 5 1) 6 b) 7 v) 8 0
theorem wr_e {ob : Rec} {b v rs : Int32} (h0 : gI ob 0 = 8) (h1 : gI ob 1 = rs) (h4 : gI ob 4 = 0) (h5 : gI ob 5 = 0) (hb : K8 b) (hv : 0 ≤ v.toInt ∧ v.toInt ≤ 65535) (hrs : ¬ rs = 0) (hr : 0 ≤ (b / rs).toInt ∧ (b / rs).toInt < 32) : X_write ob b v = some (0, wr ob (b / rs) b v) := by
  have t : (65535 : Int32).toInt = 65535 := rfl
  have c : ∀ A : Option Rec, chk 32 (b / rs) A = A := fun A => chk_ok (by rw [t32]; omega)
  unfold X_write X_markDirty dvz
  rw [if_pos h4, vb_e h0 hb, Option.bind_some, if_neg (by decide), if_neg (by rw [lt_i, t0]; omega), if_neg (by rw [lt_i, t]; omega), if_pos h5, h1, if_neg hrs, c, c, c, Option.bind_some]; rfl
theorem st_0 {ob : Rec} {b v : Int32} (h4 : gI ob 4 = 0) (h5 : gI ob 5 = 1) (h6 : gI ob 6 = b) (h7 : gI ob 7 = v) (h8 : gI ob 8 = 0) (hl : gA ob 2 0 = 0) (hb : K8 b) : X_step 60 ob = some (1, sI (sA ob 0 b v) 8 1) := by
  have := hb.1; have := hb.2
  have z : (0 * 32 + b : Int32) = b := by rw [Int32.zero_mul, Int32.zero_add]
  unfold X_step; rw [if_pos h4, h5, if_neg (by decide)]
  show X_step_w19 60 (X_step_l19 60 59) ob = _
  unfold X_step_w19 X_step_b53
  rw [h8, if_neg (by decide), chk_ok (by decide), hl, if_neg (by decide), if_neg (by decide), h6, h7, z, chk_ok (by rw [t64]; omega), if_pos rfl]; rfl
theorem st_1 {ob : Rec} {b v : Int32} (h4 : gI ob 4 = 0) (h5 : gI ob 5 = 1) (h6 : gI ob 6 = b) (h7 : gI ob 7 = v) (h8 : gI ob 8 = 1) (hl : gA ob 2 1 = 0) (hb : K8 b) : X_step 60 ob = some (2, sI (sA ob 0 (32 + b) v) 8 2) := by
  have := hb.1; have := hb.2
  have z : (1 * 32 + b : Int32) = 32 + b := rfl
  unfold X_step; rw [if_pos h4, h5, if_neg (by decide)]
  show X_step_w19 60 (X_step_l19 60 59) ob = _
  unfold X_step_w19 X_step_b53
  rw [h8, if_neg (by decide), chk_ok (by decide), hl, if_neg (by decide), if_neg (by decide), h6, h7, z, chk_ok (by rw [t64, a32 hb]; omega), if_neg (by decide)]; rfl
theorem rd_e {ob : Rec} {b : Int32} (h0 : gI ob 0 = 8) (h4 : gI ob 4 = 0) (hl : gA ob 2 0 = 0) (hb : K8 b) : X_read ob b = some (gA ob 0 b) := by
  have := hb.1; have := hb.2
  have z : (0 * 32 + b : Int32) = b := by rw [Int32.zero_mul, Int32.zero_add]
  unfold X_read
  rw [if_pos h4, vb_e h0 hb, Option.bind_some, if_neg (by decide), chk_ok (by decide), if_pos hl, z, chk_ok (by rw [t64]; omega)]
theorem pk_0 {ob : Rec} {b : Int32} (h0 : gI ob 0 = 8) (hb : K8 b) : X_peek ob 0 b = some (gA ob 0 b) := by
  have := hb.1; have := hb.2
  have z : (0 * 32 + b : Int32) = b := by rw [Int32.zero_mul, Int32.zero_add]
  unfold X_peek X_validLeg
  rw [if_pos rfl, Option.bind_some, if_neg (by decide), vb_e h0 hb, Option.bind_some, if_neg (by decide), z, chk_ok (by rw [t64]; omega)]
theorem pk_1 {ob : Rec} {b : Int32} (h0 : gI ob 0 = 8) (hb : K8 b) : X_peek ob 1 b = some (gA ob 0 (32 + b)) := by
  have := hb.1; have := hb.2
  have z : (1 * 32 + b : Int32) = 32 + b := rfl
  unfold X_peek X_validLeg
  rw [if_neg (by decide), if_pos rfl, Option.bind_some, if_neg (by decide), vb_e h0 hb, Option.bind_some, if_neg (by decide), z, chk_ok (by rw [t64, a32 hb]; omega)]
theorem ck_e {ob : Rec} {b : Int32} (h0 : gI ob 0 = 8) (hb : K8 b) : X_ackedValue ob b = some (gA ob 1 b) := by
  have := hb.1; have := hb.2
  unfold X_ackedValue
  rw [vb_e h0 hb, Option.bind_some, if_neg (by decide), chk_ok (by rw [t32]; omega)]
theorem ls_0 (ob : Rec) : X_legState ob 0 = some (gA ob 2 0) := by
  unfold X_legState X_validLeg; rw [if_pos rfl, Option.bind_some, if_neg (by decide), chk_ok (by decide)]
theorem ls_1 (ob : Rec) : X_legState ob 1 = some (gA ob 2 1) := by
  unfold X_legState X_validLeg; rw [if_neg (by decide), if_pos rfl, Option.bind_some, if_neg (by decide), chk_ok (by decide)]
/-- the acknowledging step -/
theorem st_2 {ob : Rec} {b v rs : Int32} (h1 : gI ob 1 = rs) (h3 : gI ob 3 = (8 + rs - 1) / rs) (h4 : gI ob 4 = 0) (h5 : gI ob 5 = 1) (h6 : gI ob 6 = b) (h7 : gI ob 7 = v) (h8 : gI ob 8 = 2) (hz : ∀ j, gA ob 4 j = 0) (hl0 : gA ob 2 0 = 0) (hl1 : gA ob 2 1 = 0) (hb : K8 b) (hrs : rs ∈ ([1, 2, 3, 4] : List Int32)) : ∃ q, X_step 60 ob = some (3, q) ∧ Bm (sI (sI (sI (sI (sA ob 1 b v) 5 0) 6 (-1)) 7 0) 8 (-1)) q := by
  have := hb.1; have := hb.2
  have T := tabR rs hrs b (k8m hb)
  generalize hA : sI (sI (sI (sI (sA ob 1 b v) 5 0) 6 (-1)) 7 0) 8 (-1) = A1
  have A3 : gI A1 3 = (8 + rs - 1) / rs := by rw [← hA]; exact h3
  have Ar : gI A1 1 = rs := by rw [← hA]; exact h1
  have Az : ∀ j, gA A1 4 j = 0 := by intro j; rw [← hA]; exact hz j
  have Al0 : gA A1 2 0 = 0 := by rw [← hA]; exact hl0
  have Al1 : gA A1 2 1 = 0 := by rw [← hA]; exact hl1
  have ao : X_ageOthers 60 A1 (b / rs) = some A1 := ao_l 60 A1 (b / rs) Az (by rw [A3]; omega) 8 60 0 (by omega) (by decide) (by rw [A3, t0]; omega)
  obtain ⟨q, eq, bq⟩ := ca_l 60 ((8 + rs - 1) / rs) (by omega) 8 60 (sA (sA A1 4 (b / rs) 1) 5 (b / rs) 0) 0 (by omega) (by decide) (by rw [t0]; omega) A3
  refine ⟨q, ?_, ?_⟩
  · unfold X_step; rw [if_pos h4, h5, if_neg (by decide)]
    show X_step_w19 60 (X_step_l19 60 59) ob = _
    unfold X_step_w19 X_step_b53 X_acknowledge X_clearPending dvz
    rw [h8, if_pos (by decide), if_pos (by decide), h6, h7, chk_ok (by rw [t32]; omega), Option.bind_some, hA, Ar, if_neg T.2.2.2.2.2.2.2, ao, Option.bind_some, chk_ok (by rw [t32]; omega), chk_ok (by rw [t32]; omega)]
    have ba : X_bothActive (sA (sA A1 4 (b / rs) 1) 5 (b / rs) 0) = some 1 := by
      unfold X_bothActive
      have z0 : gA (sA (sA A1 4 (b / rs) 1) 5 (b / rs) 0) 2 0 = 0 := Al0
      have z1 : gA (sA (sA A1 4 (b / rs) 1) 5 (b / rs) 0) 2 1 = 0 := Al1
      rw [chk_ok (by decide), if_pos z0, chk_ok (by decide), if_pos z1]
    rw [ba, Option.bind_some, if_neg (by decide)]
    unfold X_clearAged
    rw [eq]; rfl
  · refine Bm.trans (b := sA (sA A1 4 (b / rs) 1) 5 (b / rs) 0) ⟨rfl, fun k x hk => ?_⟩ bq
    rw [gA_sA, if_neg (fun h => by have := h.1; omega), gA_sA, if_neg (fun h => by have := h.1; omega)]
theorem rs_e {ob : Rec} {rs : Int32} (h0 : gI ob 0 = 8) (h1 : gI ob 1 = rs) (h3 : gI ob 3 = (8 + rs - 1) / rs) (h4 : gI ob 4 = 0) (h5 : gI ob 5 = 0) (hl0 : gA ob 2 0 = 0) (hl1 : gA ob 2 1 = 1) (hrs : rs ∈ ([1, 2, 3, 4] : List Int32)) : ∃ q p, X_resync 60 ob = some (0, sA q 2 1 0) ∧ Bm p q ∧ Rl ob p ∧ ∀ x, K8 x → ¬ gA ob 3 (x / rs) = 0 → gA p 0 (32 + x) = gA ob 0 x := by
  have T := tabR rs hrs 0 (by decide)
  obtain ⟨p, ep, p1, p2⟩ := out_l 60 (by omega) rs hrs 8 60 ob 0 (by omega) (by decide) (by rw [t0]; omega) h0 h1 h3
  obtain ⟨q, eq, bq⟩ := cb_l 60 32 60 p 0 (by omega) (by decide) (by rw [t0]; omega)
  refine ⟨q, p, ?_, bq, p1, fun x hx h => p2 x hx (by rw [t0]; exact (tabR rs hrs x (k8m hx)).2.1) h⟩
  unfold X_resync X_staleLeg
  rw [if_pos h4, if_pos h5, chk_ok (by decide), hl0, if_neg (by decide), chk_ok (by decide), hl1, if_pos rfl, Option.bind_some, if_neg (by decide)]
  have cd : X_copyDirtyRegions 60 ob (1 - 1) 1 = some p := ep
  rw [cd, Option.bind_some]
  unfold X_clearBitmap
  rw [eq, Option.bind_some, chk_ok (by decide)]
def due (b1 b2 v1 v2 x : Int32) : Int32 := if x = b2 then v2 else if x = b1 then v1 else 0
theorem lp (q : Rec) (b1 b2 v1 v2 : Int32) (h0 : gI q 0 = 8) (hx : ∀ x, K8 x → gA q 0 x = due b1 b2 v1 v2 x ∧ gA q 0 (32 + x) = due b1 b2 v1 v2 x) : ∀ (m fuel : Nat) (i : Int32), m < fuel → 0 ≤ i.toInt → 8 - i.toInt ≤ m → L_law_l284 60 fuel q b1 b2 v1 v2 i = some 1 := by
  intro m
  induction m with
  | zero =>
    intro fuel i hf hi h2
    obtain ⟨n, rfl⟩ : ∃ n, fuel = n + 1 := ⟨fuel - 1, by omega⟩
    show L_law_w284 60 _ q b1 b2 v1 v2 i = _
    unfold L_law_w284; rw [if_neg (by rw [lt_i, t8]; omega)]
  | succ m ih =>
    intro fuel i hf hi h2
    obtain ⟨n, rfl⟩ : ∃ n, fuel = n + 1 := ⟨fuel - 1, by omega⟩
    show L_law_w284 60 _ q b1 b2 v1 v2 i = _
    unfold L_law_w284
    by_cases hc : i.toInt < 8
    · have ei := succ8 (i := i) (by omega)
      have k : K8 i := ⟨hi, hc⟩
      have e := ih n (i + 1) (by omega) (by omega) (by omega)
      obtain ⟨x0, x1⟩ := hx i k
      have key : ∀ t, t = due b1 b2 v1 v2 i → L_law_b316 60 (L_law_l284 60 n) q b1 b2 v1 v2 i t = some 1 := by
        intro t ht
        unfold L_law_b316
        rw [pk_0 h0 k, pk_1 h0 k, Option.bind_some, Option.bind_some, x0, x1, if_pos ht.symm, if_pos ht.symm]
        exact e
      rw [if_pos (by rw [lt_i, t8]; omega)]
      unfold due at key
      by_cases c2 : i = b2
      · rw [if_pos c2]; exact key v2 (by rw [if_pos c2])
      · rw [if_neg c2]
        by_cases c1 : i = b1
        · rw [if_pos c1]; exact key v1 (by rw [if_neg c2, if_pos c1])
        · rw [if_neg c1]; exact key 0 (by rw [if_neg c2, if_neg c1])
    · rw [if_neg (by rw [lt_i, t8]; omega)]
theorem mid (rs cd b1 b2 v1 v2 : Int32) (hrs : rs ∈ ([1, 2, 3, 4] : List Int32)) (k1 : K8 b1) (k2 : K8 b2) (hv1 : 0 ≤ v1.toInt ∧ v1.toInt ≤ 65535) (hv2 : 0 ≤ v2.toInt ∧ v2.toInt ≤ 65535) (Q0 : Rec) (g0 : gI Q0 0 = 8) (g1 : gI Q0 1 = rs) (g3 : gI Q0 3 = (8 + rs - 1) / rs) (g4 : gI Q0 4 = 0) (g5 : gI Q0 5 = 0) (gz : ∀ k i, gA Q0 k i = 0) :
    ∃ Q2 Q3 Q4 Q6 Q7 Q8, X_write Q0 b1 v1 = some (0, wr Q0 (b1 / rs) b1 v1) ∧ X_step 60 (wr Q0 (b1 / rs) b1 v1) = some (1, Q2) ∧ X_step 60 Q2 = some (2, Q3) ∧ X_step 60 Q3 = some (3, Q4) ∧ X_write Q4 b2 v2 = some (0, wr Q4 (b2 / rs) b2 v2) ∧ X_step 60 (wr Q4 (b2 / rs) b2 v2) = some (1, Q6) ∧ X_crash Q6 = some (0, Q7) ∧ X_pendingBlock Q7 = some (-1) ∧ X_isDown Q7 = some 1 ∧ X_read Q7 b2 = some (-1) ∧ X_restart Q7 = some (0, Q8) ∧ X_legState Q8 0 = some 0 ∧ X_legState Q8 1 = some 1 ∧
      ∀ t, t = (if b1 = b2 then v1 else 0) → L_law_b201 60 Q8 b1 b2 v1 v2 t = some 1 := by
  have T1 := tabR rs hrs b1 (k8m k1)
  have T2 := tabR rs hrs b2 (k8m k2)
  have hrs0 : ¬ rs = 0 := T1.2.2.2.2.2.2.2
  have w1 := wr_e (ob := Q0) (b := b1) (v := v1) (rs := rs) g0 g1 g4 g5 k1 hv1 hrs0 (by omega)
  generalize hQ1 : wr Q0 (b1 / rs) b1 v1 = Q1 at w1
  have a0 : gI Q1 0 = 8 := by rw [← hQ1]; exact g0
  have a1 : gI Q1 1 = rs := by rw [← hQ1]; exact g1
  have a3 : gI Q1 3 = (8 + rs - 1) / rs := by rw [← hQ1]; exact g3
  have a4 : gI Q1 4 = 0 := by rw [← hQ1]; exact g4
  have a5 : gI Q1 5 = 1 := by rw [← hQ1]; rfl
  have a6 : gI Q1 6 = b1 := by rw [← hQ1]; rfl
  have a7 : gI Q1 7 = v1 := by rw [← hQ1]; rfl
  have a8 : gI Q1 8 = 0 := by rw [← hQ1]; rfl
  have az : ∀ (k : Nat) (i : Int32), k < 3 ∨ k = 4 → gA Q1 k i = 0 := by
    intro k i hk; rw [← hQ1]; unfold wr
    simp only [gA_sI, gA_sA, gz]
    split
    · rfl
    · split
      · rfl
      · rename_i h1 h2
        rw [if_neg (fun h => by have := h.1; omega)]
  have e1 := st_0 a4 a5 a6 a7 a8 (az 2 0 (by omega)) k1
  generalize hQ2 : sI (sA Q1 0 b1 v1) 8 1 = Q2 at e1
  have b0 : gI Q2 0 = 8 := by rw [← hQ2]; exact a0
  have b1' : gI Q2 1 = rs := by rw [← hQ2]; exact a1
  have b3 : gI Q2 3 = (8 + rs - 1) / rs := by rw [← hQ2]; exact a3
  have b4 : gI Q2 4 = 0 := by rw [← hQ2]; exact a4
  have b5 : gI Q2 5 = 1 := by rw [← hQ2]; exact a5
  have b6 : gI Q2 6 = b1 := by rw [← hQ2]; exact a6
  have b7 : gI Q2 7 = v1 := by rw [← hQ2]; exact a7
  have b8 : gI Q2 8 = 1 := by rw [← hQ2]; rfl
  have bz : ∀ (k : Nat) (i : Int32), (k < 3 ∨ k = 4) → ¬ k = 0 → gA Q2 k i = 0 := by
    intro k i hk h0; rw [← hQ2, gA_sI, gA_sA, if_neg (fun h => h0 h.1)]; exact az k i hk
  have bv : ∀ x, gA Q2 0 x = if x = b1 then v1 else 0 := by
    intro x; rw [← hQ2, gA_sI, gA_sA, az 0 x (by omega)]; simp
  have e2 := st_1 b4 b5 b6 b7 b8 (bz 2 1 (by omega) (by decide)) k1
  generalize hQ3 : sI (sA Q2 0 (32 + b1) v1) 8 2 = Q3 at e2
  have c0 : gI Q3 0 = 8 := by rw [← hQ3]; exact b0
  have c1 : gI Q3 1 = rs := by rw [← hQ3]; exact b1'
  have c3 : gI Q3 3 = (8 + rs - 1) / rs := by rw [← hQ3]; exact b3
  have c4 : gI Q3 4 = 0 := by rw [← hQ3]; exact b4
  have c5 : gI Q3 5 = 1 := by rw [← hQ3]; exact b5
  have c6 : gI Q3 6 = b1 := by rw [← hQ3]; exact b6
  have c7 : gI Q3 7 = v1 := by rw [← hQ3]; exact b7
  have c8 : gI Q3 8 = 2 := by rw [← hQ3]; rfl
  have cz : ∀ (k : Nat) (i : Int32), (k < 3 ∨ k = 4) → ¬ k = 0 → gA Q3 k i = 0 := by
    intro k i hk h0; rw [← hQ3, gA_sI, gA_sA, if_neg (fun h => h0 h.1)]; exact bz k i hk h0
  have cv : ∀ x, gA Q3 0 x = if x = 32 + b1 then v1 else if x = b1 then v1 else 0 := by
    intro x; rw [← hQ3, gA_sI, gA_sA, bv]; simp
  obtain ⟨Q4, e3, B4⟩ := st_2 c1 c3 c4 c5 c6 c7 c8 (fun j => cz 4 j (by omega) (by decide)) (cz 2 0 (by omega) (by decide)) (cz 2 1 (by omega) (by decide)) k1 hrs
  have d0 : gI Q4 0 = 8 := (B4.n 0).trans c0
  have d1 : gI Q4 1 = rs := (B4.n 1).trans c1
  have d3 : gI Q4 3 = (8 + rs - 1) / rs := (B4.n 3).trans c3
  have d4 : gI Q4 4 = 0 := (B4.n 4).trans c4
  have d5 : gI Q4 5 = 0 := (B4.n 5).trans rfl
  have dv : ∀ x, gA Q4 0 x = if x = 32 + b1 then v1 else if x = b1 then v1 else 0 := fun x => (B4.2 0 x (by omega)).trans (cv x)
  have da : ∀ x, gA Q4 1 x = if x = b1 then v1 else 0 := by
    intro x
    rw [B4.2 1 x (by omega), gA_sI, gA_sI, gA_sI, gA_sI, gA_sA, cz 1 x (by omega) (by decide)]; simp
  have dl : ∀ x, gA Q4 2 x = 0 := fun x => (B4.2 2 x (by omega)).trans (cz 2 x (by omega) (by decide))
  have w2 := wr_e (ob := Q4) (b := b2) (v := v2) (rs := rs) d0 d1 d4 d5 k2 hv2 hrs0 (by omega)
  generalize hQ5 : wr Q4 (b2 / rs) b2 v2 = Q5 at w2
  have f0 : gI Q5 0 = 8 := by rw [← hQ5]; exact d0
  have f1 : gI Q5 1 = rs := by rw [← hQ5]; exact d1
  have f3 : gI Q5 3 = (8 + rs - 1) / rs := by rw [← hQ5]; exact d3
  have f4 : gI Q5 4 = 0 := by rw [← hQ5]; exact d4
  have f5 : gI Q5 5 = 1 := by rw [← hQ5]; rfl
  have f6 : gI Q5 6 = b2 := by rw [← hQ5]; rfl
  have f7 : gI Q5 7 = v2 := by rw [← hQ5]; rfl
  have f8 : gI Q5 8 = 0 := by rw [← hQ5]; rfl
  have fk : ∀ (k : Nat) (x : Int32), k < 3 → gA Q5 k x = gA Q4 k x := by
    intro k x hk; rw [← hQ5]; exact (Bm.set Q4 (b2 / rs) 1 0 0).2 k x hk
  have fd : gA Q5 3 (b2 / rs) = 1 := by
    rw [← hQ5]; unfold wr; simp [gA_sI, gA_sA]
  have e4 := st_0 f4 f5 f6 f7 f8 ((fk 2 0 (by omega)).trans (dl 0)) k2
  generalize hQ6 : sI (sA Q5 0 b2 v2) 8 1 = Q6 at e4
  have e5 : X_crash Q6 = some (0, sI (sI (sI (sI (sI Q6 5 0) 6 (-1)) 7 0) 8 (-1)) 4 1) := by
    have : gI Q6 4 = 0 := by rw [← hQ6]; exact f4
    unfold X_crash X_clearPending; rw [if_pos this, Option.bind_some]
  have h60 : gI Q6 0 = 8 := by rw [← hQ6]; exact f0
  have h61 : gI Q6 1 = rs := by rw [← hQ6]; exact f1
  have h63 : gI Q6 3 = (8 + rs - 1) / rs := by rw [← hQ6]; exact f3
  have h6k : ∀ (k : Nat) (x : Int32), ¬ k = 0 → gA Q6 k x = gA Q5 k x := by
    intro k x hk; rw [← hQ6, gA_sI, gA_sA, if_neg (fun h => hk h.1)]
  have h6v : ∀ x, gA Q6 0 x = if x = b2 then v2 else gA Q5 0 x := by
    intro x; rw [← hQ6, gA_sI, gA_sA]; simp
  have l0 : gA Q6 2 0 = 0 := (h6k 2 0 (by decide)).trans ((fk 2 0 (by omega)).trans (dl 0))
  have l1 : gA Q6 2 1 = 0 := (h6k 2 1 (by decide)).trans ((fk 2 1 (by omega)).trans (dl 1))
  generalize hQ7 : sI (sI (sI (sI (sI Q6 5 0) 6 (-1)) 7 0) 8 (-1)) 4 1 = Q7 at e5
  have m4 : gI Q7 4 = 1 := by rw [← hQ7]; rfl
  have m5 : gI Q7 5 = 0 := by rw [← hQ7]; rfl
  have ml0 : gA Q7 2 0 = 0 := by rw [← hQ7]; exact l0
  have ml1 : gA Q7 2 1 = 0 := by rw [← hQ7]; exact l1
  have e6 : X_restart Q7 = some (0, sA (sI Q7 4 0) 2 1 1) := by
    unfold X_restart; rw [m4, if_neg (by decide), chk_ok (by decide), if_pos ml0, chk_ok (by decide), if_pos ml1, chk_ok (by decide)]
  refine ⟨Q2, Q3, Q4, Q6, Q7, sA (sI Q7 4 0) 2 1 1, w1, e1, e2, e3, ?_, ?_, e5, ?_, ?_, ?_, e6, ?_, ?_, ?_⟩
  · rw [hQ5]; exact w2
  · rw [hQ5]; exact e4
  · unfold X_pendingBlock; rw [if_pos m5]
  · unfold X_isDown; rw [m4]; rfl
  · unfold X_read; rw [m4, if_neg (by decide)]
  · rw [ls_0]; show some (gA Q7 2 0) = _; rw [ml0]
  · rw [ls_1]; rfl
  · intro t ht
    generalize hQ8 : sA (sI Q7 4 0) 2 1 1 = Q8
    have n0 : gI Q8 0 = 8 := by rw [← hQ8, ← hQ7]; exact h60
    have n1 : gI Q8 1 = rs := by rw [← hQ8, ← hQ7]; exact h61
    have n3 : gI Q8 3 = (8 + rs - 1) / rs := by rw [← hQ8, ← hQ7]; exact h63
    have n4 : gI Q8 4 = 0 := by rw [← hQ8]; rfl
    have n5 : gI Q8 5 = 0 := by rw [← hQ8, ← hQ7]; rfl
    have nl0 : gA Q8 2 0 = 0 := by rw [← hQ8]; exact ml0
    have nl1 : gA Q8 2 1 = 1 := by rw [← hQ8]; rfl
    have nk : ∀ (k : Nat) (x : Int32), ¬ k = 2 → gA Q8 k x = gA Q6 k x := by
      intro k x hk; rw [← hQ8, gA_sA, if_neg (fun h => hk h.1), gA_sI, ← hQ7]; rfl
    have nd : ¬ gA Q8 3 (b2 / rs) = 0 := by rw [nk 3 _ (by decide), h6k 3 _ (by decide), fd]; decide
    have na : gA Q8 1 b2 = if b1 = b2 then v1 else 0 := by
      rw [nk 1 _ (by decide), h6k 1 _ (by decide), fk 1 _ (by omega), da]
      by_cases c : b1 = b2
      · rw [if_pos c, if_pos c.symm]
      · rw [if_neg c, if_neg (fun h => c h.symm)]
    have ne32 : ∀ {x y : Int32}, K8 x → K8 y → ¬ x = 32 + y := by
      intro x y hx hy h
      have := a32 hy; have := hx.2; have := hy.1
      rw [← h] at *
      omega
    have ne32' : ∀ {x y : Int32}, K8 x → K8 y → ¬ 32 + x = y := fun hx hy h => ne32 hy hx h.symm
    have i32 : ∀ {x y : Int32}, K8 x → K8 y → (32 + x = 32 + y ↔ x = y) := by
      intro x y hx hy
      constructor
      · intro h; have e := a32 hx; rw [h, a32 hy] at e; exact eq_i32.mpr (by omega)
      · intro h; rw [h]
    have nv : ∀ x, K8 x → gA Q8 0 x = due b1 b2 v1 v2 x := by
      intro x hx
      rw [nk 0 _ (by decide), h6v, fk 0 _ (by omega), dv]
      unfold due
      rw [if_neg (ne32 hx k1)]
    have nw : ∀ x, K8 x → gA Q8 0 (32 + x) = if x = b1 then v1 else 0 := by
      intro x hx
      rw [nk 0 _ (by decide), h6v, fk 0 _ (by omega), dv, if_neg (ne32' hx k2), if_neg (ne32' hx k1)]
      by_cases c : x = b1
      · rw [if_pos ((i32 hx k1).mpr c), if_pos c]
      · rw [if_neg (fun h => c ((i32 hx k1).mp h)), if_neg c]
    have np : gA Q8 0 (32 + b2) = if b1 = b2 then v1 else 0 := by
      rw [nw b2 k2]
      by_cases c : b1 = b2
      · rw [if_pos c, if_pos c.symm]
      · rw [if_neg c, if_neg (fun h => c h.symm)]
    have nb : gA Q8 0 b2 = v2 := by rw [nv b2 k2]; unfold due; rw [if_pos rfl]
    obtain ⟨q, p, eq, bq, rp, hp⟩ := rs_e n0 n1 n3 n4 n5 nl0 nl1 hrs
    have qI : ∀ k, gI (sA q 2 1 0) k = gI Q8 k := fun k => by
      show gI q k = _
      rw [bq.n k]; unfold gI; rw [rp.1]
    have qA : ∀ x, gA (sA q 2 1 0) 0 x = gA p 0 x := by
      intro x
      rw [gA_sA, if_neg (fun h => absurd h.1 (by decide))]; exact bq.2 0 x (by omega)
    have ql0 : gA (sA q 2 1 0) 2 0 = 0 := by
      rw [gA_sA, if_neg (fun h => absurd h.2 (by decide)), bq.2 2 0 (by omega), rp.2.1 2 0 (by decide)]; exact nl0
    have fin : ∀ x, K8 x → gA (sA q 2 1 0) 0 x = due b1 b2 v1 v2 x ∧ gA (sA q 2 1 0) 0 (32 + x) = due b1 b2 v1 v2 x := by
      intro x hx
      refine ⟨by rw [qA, rp.2.2.1 x hx, nv x hx], ?_⟩
      rw [qA]
      by_cases c : x = b2
      · rw [hp x hx (by rw [c]; exact nd), nv x hx]
      · rcases rp.2.2.2 x hx with e | e
        · rw [e, nv x hx]
        · rw [e, nw x hx]; unfold due; rw [if_neg c]
    unfold L_law_b201
    rw [rd_e n0 n4 nl0 k2, Option.bind_some, if_pos nb, pk_1 n0 k2, Option.bind_some, np, if_pos ht.symm, ck_e n0 k2, Option.bind_some, na, if_pos ht.symm, eq, bind2_some, if_pos rfl, ls_1, Option.bind_some]
    have z1 : gA (sA q 2 1 0) 2 1 = 0 := rfl
    rw [if_pos z1, rd_e ((qI 0).trans n0) ((qI 4).trans n4) ql0 k2, Option.bind_some, (fin b2 k2).1]
    have zd : due b1 b2 v1 v2 b2 = v2 := by unfold due; rw [if_pos rfl]
    rw [if_pos zd]
    exact lp (sA q 2 1 0) b1 b2 v1 v2 ((qI 0).trans n0) fin 8 60 0 (by omega) (by decide) (by decide)
theorem cl14 (a : Int32) : ∃ v, X_clamp a 1 4 = some v ∧ v ∈ ([1, 2, 3, 4] : List Int32) := by
  unfold X_clamp
  by_cases h1 : a < 1
  · exact ⟨1, by rw [if_pos h1], by decide⟩
  · by_cases h2 : 4 < a
    · exact ⟨4, by rw [if_neg h1, if_pos h2], by decide⟩
    · refine ⟨a, by rw [if_neg h1, if_neg h2], ?_⟩
      simp only [lt_i, Int32.reduceToInt] at h1 h2
      simp only [List.mem_cons, eq_i32, Int32.reduceToInt, List.not_mem_nil, or_false]
      omega
theorem clx (a b c : Int32) : ∃ v, X_clamp a b c = some v := by
  unfold X_clamp
  split
  · exact ⟨_, rfl⟩
  · split <;> exact ⟨_, rfl⟩
theorem owed : ∀ i0 i1 i2 i3 i4 i5 : Int32, ∃ NF : Nat, L_law NF i0 i1 i2 i3 i4 i5 = some 1 := by
  intro i0 i1 i2 i3 i4 i5
  refine ⟨60, ?_⟩
  obtain ⟨rs, hrs, mrs⟩ := cl14 i0
  obtain ⟨cd, hcd⟩ := clx i1 0 4
  have rs0 : ¬ rs = 0 := (tabR rs mrs 0 (by decide)).2.2.2.2.2.2.2
  have h8 : X_clamp 8 8 32 = some 8 := by unfold X_clamp; rw [if_neg (by decide), if_neg (by decide)]
  have hi : X_init 8 i0 i1 = some (sI (sI (sI (sI (sI (sA (sA (sI (sI (sI (sI zrec 0 8) 1 rs) 2 cd) 3 (((8 + rs) - 1) / rs)) 2 0 0) 2 1 0) 4 0) 5 0) 6 (-1)) 7 0) 8 (-1)) := by
    unfold X_init dvz
    rw [h8, Option.bind_some, hrs, Option.bind_some, hcd, Option.bind_some, if_neg rs0, chk_ok (by decide), chk_ok (by decide)]
  have hv1 := and_b i4 65535 65535 rfl (by omega)
  have hv2 := and_b i5 65535 65535 rfl (by omega)
  obtain ⟨Q2, Q3, Q4, Q6, Q7, Q8, x1, x2, x3, x4, x5, x6, x7, x8, x9, x10, x11, x12, x13, x14⟩ := mid rs cd (i2 &&& 7) (i3 &&& 7) (i4 &&& 65535) (i5 &&& 65535) mrs (mk8 (mem8 i2)) (mk8 (mem8 i3)) hv1 hv2 (sI (sI (sI (sI (sI (sA (sA (sI (sI (sI (sI zrec 0 8) 1 rs) 2 cd) 3 (((8 + rs) - 1) / rs)) 2 0 0) 2 1 0) 4 0) 5 0) 6 (-1)) 7 0) 8 (-1)) rfl rfl rfl rfl rfl (fun k i => by simp [gA_sI, gA_sA, gA_z])
  unfold L_law
  rw [hi, Option.bind_some, x1, bind2_some, if_pos rfl, x2, bind2_some, if_pos rfl, x3, bind2_some, if_pos rfl, x4, bind2_some, if_pos rfl, x5, bind2_some, if_pos rfl, x6, bind2_some, if_pos rfl, x7, bind2_some, if_pos rfl, x8, Option.bind_some, if_pos rfl, x9, Option.bind_some, if_neg (by decide), x10, Option.bind_some, if_pos rfl, x11, bind2_some, if_pos rfl, x12, Option.bind_some, if_pos rfl, x13, Option.bind_some, if_pos rfl]
  by_cases c : i2 &&& 7 = i3 &&& 7
  · rw [if_pos c]; exact x14 _ (by rw [if_pos c])
  · rw [if_neg c]; exact x14 _ (by rw [if_neg c])
-- owed : ∀ i0 i1 i2 i3 i4 i5 : Int32, ∃ NF : Nat, L_law NF i0 i1 i2 i3 i4 i5 = some 1
--COMES--
set_option maxRecDepth 65536 in
set_option maxHeartbeats 4000000 in
theorem comes_1 {Post : Tables → Env → Array Value → State → Outcome → State → Prop} (hpost : ∀ tb e args s v u, (limb_1_1.after args s (.returned v) u = true ∧ limb_1_2.after args s (.returned v) u = true ∧ True) → FrameEnd s (.returned v) u (Jvm.fieldLocs frame_1_writes args s ++ Jvm.arrayLocs frame_1_arrays args s ++ Jvm.staticLocs frame_1_statics s) 24 512 → Post tb e args s (.returned v) u) :
    ArmFor flags0 classFile x code maxLocals ret World_1 tables_1 room_1 Calls_1 rest_1 Pre_1 Post := by
  intro l hfl _ _ p e ha hc hk s m args below hf hA hF happ hP
  obtain ⟨hcalls, hrest, hpre⟩ := hP
  obtain ⟨-, -, -, hnamed, -, -, -, hat⟩ := (Spec.applies_iff hf).mp happ
  obtain ⟨hg, hn⟩ := and_e (Cond.before_iff.mp (show (Jvm.Cond.and given_1 narrow_1).before args s = true from hpre))
  obtain ⟨hcnt, hg⟩ := and_e hg
  obtain ⟨w0, w1, w2, w3, w4, w5, rfl⟩ : ∃ w0 w1 w2 w3 w4 w5 : Value, args = #[w0, w1, w2, w3, w4, w5] := by
    have hs : args.size = 6 := by simpa [Cond.value, given_1] using hcnt
    obtain ⟨L⟩ := args
    match L, hs with
    | [w0, w1, w2, w3, w4, w5], _ => exact ⟨w0, w1, w2, w3, w4, w5, rfl⟩
  have hw := fun d (hd : d ∈ tables_1) => atoms_spec (ws := Jvm.Cond.code x code maxLocals ret :: tables_1) hat d (List.mem_cons_of_mem _ hd)
  have hfit : Fit s := fun {y c} hc i hi => by
    obtain ⟨ha, rfl⟩ := Array.getElem?_eq_some_iff.mp hc
    have q := List.all_eq_true.mp ((Array.all_eq_true_iff_forall_mem.mp hF) _ (Array.getElem_mem ha)) i (List.mem_range.mpr hi)
    simpa [Array.getElem?_eq_getElem hi] using q
  obtain ⟨h0, hg⟩ := and_e hg
  obtain ⟨i0, e0⟩ := is_v h0
  obtain rfl : w0 = (.int i0) := Option.some.inj e0
  obtain ⟨h1, hg⟩ := and_e hg
  obtain ⟨i1, e1⟩ := is_v h1
  obtain rfl : w1 = (.int i1) := Option.some.inj e1
  obtain ⟨h2, hg⟩ := and_e hg
  obtain ⟨i2, e2⟩ := is_v h2
  obtain rfl : w2 = (.int i2) := Option.some.inj e2
  obtain ⟨h3, hg⟩ := and_e hg
  obtain ⟨i3, e3⟩ := is_v h3
  obtain rfl : w3 = (.int i3) := Option.some.inj e3
  obtain ⟨h4, hg⟩ := and_e hg
  obtain ⟨i4, e4⟩ := is_v h4
  obtain rfl : w4 = (.int i4) := Option.some.inj e4
  have h5 := hg
  obtain ⟨i5, e5⟩ := is_v h5
  obtain rfl : w5 = (.int i5) := Option.some.inj e5
  obtain ⟨NF, hlaw⟩ := owed i0 i1 i2 i3 i4 i5
  have hp := L_law_pay (C := (l, s, s.heap.size, #[.int i0, .int i1, .int i2, .int i3, .int i4, .int i5])) hlaw hw s.heap (Rep.start s) tables_1
  obtain ⟨n, o, h1, h2, h3, v, L, rfl, ⟨N, G', -, rfl⟩, hq⟩ := hp p e ha hc hk s m _ below hf ((Spec.applies_iff_loose hf).mp happ).1 ⟨rfl, State.Warmed39.refl s, rfl⟩ trivial
  refine ⟨n, _, h1, h2, h3, hpost _ _ _ _ _ _ ⟨Cond.after_iff.mpr rfl, Cond.after_iff.mpr (eq_i res_at (Term.int_eval (1)) rfl), trivial⟩ ⟨hq.1, hq.2.1, (hq.2.2.sift fun y hy => Or.inr (N y hy)).mono (by decide) (by decide)⟩⟩
theorem main_1_1 : Claimed_1_1 := comes_1 fun _ _ _ _ _ _ h hF => ⟨h.1, hF⟩
theorem main_1_2 : Claimed_1_2 := comes_1 fun _ _ _ _ _ _ h hF => ⟨h.2.1, hF⟩
end Jvm.Pilot.@@N@@
namespace Jvm.Pilot.@@N@@
open Jvm Jvm.ClassFile Sem Op Lib Jvm.Free Jvm.Stand Jvm.Pilot.@@N@@.Jvm.D
/-! MADE BY PROGRAM (witnessworld.py) out of the Statement's table words and the real class files: 11 classes; the members and pool entries that the words name. The judged class is class 1, her method 1. -/
namespace start1
open Jvm.ClassFile
def u (s : String) : CpInfo := .utf8 (stringToUtf16 s)
/-- a pool by its gaps: so many unusable entries, then the entry; so many at the end -/
def gap : Nat → List CpInfo → List CpInfo
  | 0, r => r
  | n + 1, r => .unusable :: gap n r
def poolList (es : List (Nat × CpInfo)) (last : Nat) : List CpInfo := es.foldr (fun e r => gap e.1 (e.2 :: r)) (gap last [])
def pool (es : List (Nat × CpInfo)) (last : Nat) : Array CpInfo := ⟨poolList es last⟩
def fileOf (pool : Array CpInfo) (this : Nat) (attrs : Array Attribute := #[]) (ms : Array MethodInfo := #[]) (fl : Nat := 33) (sup : Nat := 0) (ifs : Array Nat := #[]) (fds : Array FieldInfo := #[]) : ClassFile where
  minorVersion := 0
  majorVersion := 65
  constantPool := pool
  accessFlags := fl
  thisClass := this
  superClass := sup
  interfaces := ifs
  fields := fds
  methods := ms
  attributes := attrs
def plain (name : String) (sup : Option ClassId) : Class where
  name := name
  kind := .ordinary
  loader := none
  accessFlags := 33
  super := sup
  interfaces := #[]
  cf := none
  fields := #[]
  methods := #[]
  instanceTypes := #[]
  staticTypes := #[]
  resolved := #[]
  callSites := []
  init := .initialized
  statics := none
  mirror := none

def pool0 : Array CpInfo := pool [(5, u "<init>"), (0, u "()V"), (1, .class_ 10), (1, u "java/lang/Object")] 113

def k0c0 : Code := { maxStack := 0, maxLocals := 1, code := object_method_1_code, exceptionTable := #[], attributes := #[] }
def k0m0 : Method := { name := "<init>", desc := "()V", sig := { parameters := [], returnType := none }, accessFlags := 1, code := some k0c0 }
/-- java/lang/Object -/
def k0 : Class := { plain "java/lang/Object" none with
  accessFlags := 33
  interfaces := #[]
  cf := some (fileOf pool0 8 #[] #[{ accessFlags := 1, nameIndex := 5, descriptorIndex := 6, attributes := #[] }] 33 0 #[] #[])
  fields := #[]
  methods := #[k0m0]
  instanceTypes := #[]
  staticTypes := #[]
  resolved := Array.replicate 124 none
  statics := none }

def pool1 : Array CpInfo := pool [(2, .class_ 4), (1, u "java/lang/Object"), (0, u "<init>"), (0, u "()V"), (0, .class_ 8), (0, u "MirrorResync"), (0, .methodref 7 10), (0, .nameAndType 5 11), (0, u "(III)V"), (0, .integer 65535), (0, .methodref 7 14), (0, .nameAndType 15 16), (0, u "write"), (0, u "(II)I"), (0, .methodref 7 18), (0, .nameAndType 19 20), (0, u "step"), (0, u "()I"), (0, .methodref 7 22), (0, .nameAndType 23 20), (0, u "crash"), (0, .methodref 7 25), (0, .nameAndType 26 20), (0, u "pendingBlock"), (0, .methodref 7 28), (0, .nameAndType 29 30), (0, u "isDown"), (0, u "()Z"), (0, .methodref 7 32), (0, .nameAndType 33 34), (0, u "read"), (0, u "(I)I"), (0, .methodref 7 36), (0, .nameAndType 37 20), (0, u "restart"), (0, .methodref 7 39), (0, .nameAndType 40 34), (0, u "legState"), (0, .methodref 7 42), (0, .nameAndType 43 16), (0, u "peek"), (0, .methodref 7 45), (0, .nameAndType 46 34), (0, u "ackedValue"), (0, .methodref 7 48), (0, .nameAndType 49 20), (0, u "resync"), (0, .class_ 51), (0, u "MirrorResyncL3"), (2, u "law"), (0, u "(IIIIII)Z")] 3

def k1m0 : Method := { name := "<init>", desc := "()V", sig := { parameters := [], returnType := none }, accessFlags := 1, code := none }
def k1c1 : Code := { maxStack := 5, maxLocals := 16, code := code, exceptionTable := #[], attributes := #[] }
def k1m1 : Method := { name := "law", desc := "(IIIIII)Z", sig := { parameters := [.int, .int, .int, .int, .int, .int], returnType := some .boolean }, accessFlags := 9, code := some k1c1 }
/-- MirrorResyncL3 -/
def k1 : Class := { plain "MirrorResyncL3" (some 0) with
  accessFlags := 33
  interfaces := #[]
  cf := some (fileOf pool1 50 #[] #[{ accessFlags := 1, nameIndex := 5, descriptorIndex := 6, attributes := #[] }, { accessFlags := 9, nameIndex := 54, descriptorIndex := 55, attributes := #[] }] 33 2 #[] #[])
  fields := #[]
  methods := #[k1m0, k1m1]
  instanceTypes := #[]
  staticTypes := #[]
  resolved := Array.replicate 59 none
  statics := none }

def pool2 : Array CpInfo := pool [(1, .methodref 2 3), (0, .class_ 4), (0, .nameAndType 5 6), (0, u "java/lang/Object"), (0, u "<init>"), (0, u "()V"), (0, .fieldref 8 9), (0, .class_ 10), (0, .nameAndType 11 12), (0, u "MirrorResync"), (0, u "data"), (0, u "[I"), (0, .fieldref 8 14), (0, .nameAndType 15 12), (0, u "acked"), (0, .fieldref 8 17), (0, .nameAndType 18 12), (0, u "state"), (0, .fieldref 8 20), (0, .nameAndType 21 22), (0, u "dirty"), (0, u "[Z"), (0, .fieldref 8 24), (0, .nameAndType 25 22), (0, u "pending"), (0, .fieldref 8 27), (0, .nameAndType 28 12), (0, u "age"), (0, .methodref 8 30), (0, .nameAndType 31 32), (0, u "clamp"), (0, u "(III)I"), (0, .fieldref 8 34), (0, .nameAndType 35 36), (0, u "n"), (0, u "I"), (0, .fieldref 8 38), (0, .nameAndType 39 36), (0, u "regionSize"), (0, .fieldref 8 41), (0, .nameAndType 42 36), (0, u "clearDelay"), (0, .fieldref 8 44), (0, .nameAndType 45 36), (0, u "regions"), (0, .fieldref 8 47), (0, .nameAndType 48 49), (0, u "down"), (0, u "Z"), (0, .fieldref 8 51), (0, .nameAndType 52 49), (0, u "busy"), (0, .fieldref 8 54), (0, .nameAndType 55 36), (0, u "pBlock"), (0, .fieldref 8 57), (0, .nameAndType 58 36), (0, u "pValue"), (0, .fieldref 8 60), (0, .nameAndType 61 36), (0, u "pCursor"), (0, .methodref 8 63), (0, .nameAndType 64 65), (0, u "validBlock"), (0, u "(I)Z"), (0, .integer 65535), (0, .methodref 8 68), (0, .nameAndType 69 70), (0, u "markDirty"), (0, u "(I)V"), (0, .methodref 8 72), (0, .nameAndType 73 6), (0, u "acknowledge"), (0, .methodref 8 75), (0, .nameAndType 76 6), (0, u "clearPending"), (0, .methodref 8 78), (0, .nameAndType 79 65), (0, u "validLeg"), (3, u "(I)I"), (6, .methodref 8 91), (0, .nameAndType 92 93), (0, u "staleLeg"), (0, u "()I"), (0, .methodref 8 95), (0, .nameAndType 96 97), (0, u "copyDirtyRegions"), (0, u "(II)V"), (0, .methodref 8 99), (0, .nameAndType 100 6), (0, u "clearBitmap"), (0, .methodref 8 102), (0, .nameAndType 103 70), (0, u "ageOthers"), (0, .methodref 8 105), (0, .nameAndType 106 107), (0, u "bothActive"), (0, u "()Z"), (0, .methodref 8 109), (0, .nameAndType 110 6), (0, u "clearAged"), (0, u "OK"), (2, u "ERR_DOWN"), (1, u "ERR_ARG"), (1, u "ERR_BUSY"), (1, u "ERR_STATE"), (1, u "ERR_IDLE"), (1, u "STEP_LEG0"), (1, u "STEP_LEG1"), (1, u "STEP_ACKED"), (1, u "ACTIVE"), (0, u "STALE"), (0, u "FAILED"), (0, u "NONE"), (0, u "MAX_VALUE"), (0, u "STRIDE"), (1, u "(III)V"), (2, u "write"), (0, u "(II)I"), (1, u "step"), (0, u "crash"), (0, u "restart"), (3, u "resync"), (0, u "read"), (0, u "peek"), (0, u "legState"), (0, u "pendingBlock"), (1, u "isDown"), (0, u "ackedValue")] 2

def k2c0 : Code := { maxStack := 4, maxLocals := 4, code := prog_1_method_1_code, exceptionTable := #[], attributes := #[] }
def k2m0 : Method := { name := "<init>", desc := "(III)V", sig := { parameters := [.int, .int, .int], returnType := none }, accessFlags := 1, code := some k2c0 }
def k2c1 : Code := { maxStack := 3, maxLocals := 3, code := prog_1_method_2_code, exceptionTable := #[], attributes := #[] }
def k2m1 : Method := { name := "write", desc := "(II)I", sig := { parameters := [.int, .int], returnType := some .int }, accessFlags := 1, code := some k2c1 }
def k2c2 : Code := { maxStack := 3, maxLocals := 2, code := prog_1_method_3_code, exceptionTable := #[], attributes := #[] }
def k2m2 : Method := { name := "step", desc := "()I", sig := { parameters := [], returnType := some .int }, accessFlags := 1, code := some k2c2 }
def k2c3 : Code := { maxStack := 2, maxLocals := 1, code := prog_1_method_4_code, exceptionTable := #[], attributes := #[] }
def k2m3 : Method := { name := "crash", desc := "()I", sig := { parameters := [], returnType := some .int }, accessFlags := 1, code := some k2c3 }
def k2c4 : Code := { maxStack := 3, maxLocals := 1, code := prog_1_method_5_code, exceptionTable := #[], attributes := #[] }
def k2m4 : Method := { name := "restart", desc := "()I", sig := { parameters := [], returnType := some .int }, accessFlags := 1, code := some k2c4 }
def k2c5 : Code := { maxStack := 3, maxLocals := 2, code := prog_1_method_9_code, exceptionTable := #[], attributes := #[] }
def k2m5 : Method := { name := "resync", desc := "()I", sig := { parameters := [], returnType := some .int }, accessFlags := 1, code := some k2c5 }
def k2c6 : Code := { maxStack := 3, maxLocals := 3, code := prog_1_method_10_code, exceptionTable := #[], attributes := #[] }
def k2m6 : Method := { name := "read", desc := "(I)I", sig := { parameters := [.int], returnType := some .int }, accessFlags := 1, code := some k2c6 }
def k2c7 : Code := { maxStack := 3, maxLocals := 3, code := prog_1_method_11_code, exceptionTable := #[], attributes := #[] }
def k2m7 : Method := { name := "peek", desc := "(II)I", sig := { parameters := [.int, .int], returnType := some .int }, accessFlags := 1, code := some k2c7 }
def k2c8 : Code := { maxStack := 2, maxLocals := 2, code := prog_1_method_12_code, exceptionTable := #[], attributes := #[] }
def k2m8 : Method := { name := "legState", desc := "(I)I", sig := { parameters := [.int], returnType := some .int }, accessFlags := 1, code := some k2c8 }
def k2c9 : Code := { maxStack := 1, maxLocals := 1, code := prog_1_method_13_code, exceptionTable := #[], attributes := #[] }
def k2m9 : Method := { name := "pendingBlock", desc := "()I", sig := { parameters := [], returnType := some .int }, accessFlags := 1, code := some k2c9 }
def k2c10 : Code := { maxStack := 1, maxLocals := 1, code := prog_1_method_15_code, exceptionTable := #[], attributes := #[] }
def k2m10 : Method := { name := "isDown", desc := "()Z", sig := { parameters := [], returnType := some .boolean }, accessFlags := 1, code := some k2c10 }
def k2c11 : Code := { maxStack := 2, maxLocals := 2, code := prog_1_method_16_code, exceptionTable := #[], attributes := #[] }
def k2m11 : Method := { name := "ackedValue", desc := "(I)I", sig := { parameters := [.int], returnType := some .int }, accessFlags := 1, code := some k2c11 }
def k2c12 : Code := { maxStack := 2, maxLocals := 3, code := prog_1_method_17_code, exceptionTable := #[], attributes := #[] }
def k2m12 : Method := { name := "clamp", desc := "(III)I", sig := { parameters := [.int, .int, .int], returnType := some .int }, accessFlags := 10, code := some k2c12 }
def k2c13 : Code := { maxStack := 2, maxLocals := 2, code := prog_1_method_18_code, exceptionTable := #[], attributes := #[] }
def k2m13 : Method := { name := "validBlock", desc := "(I)Z", sig := { parameters := [.int], returnType := some .boolean }, accessFlags := 2, code := some k2c13 }
def k2c14 : Code := { maxStack := 2, maxLocals := 2, code := prog_1_method_19_code, exceptionTable := #[], attributes := #[] }
def k2m14 : Method := { name := "validLeg", desc := "(I)Z", sig := { parameters := [.int], returnType := some .boolean }, accessFlags := 2, code := some k2c14 }
def k2c15 : Code := { maxStack := 2, maxLocals := 1, code := prog_1_method_20_code, exceptionTable := #[], attributes := #[] }
def k2m15 : Method := { name := "bothActive", desc := "()Z", sig := { parameters := [], returnType := some .boolean }, accessFlags := 2, code := some k2c15 }
def k2c16 : Code := { maxStack := 2, maxLocals := 1, code := prog_1_method_22_code, exceptionTable := #[], attributes := #[] }
def k2m16 : Method := { name := "staleLeg", desc := "()I", sig := { parameters := [], returnType := some .int }, accessFlags := 2, code := some k2c16 }
def k2c17 : Code := { maxStack := 2, maxLocals := 1, code := prog_1_method_23_code, exceptionTable := #[], attributes := #[] }
def k2m17 : Method := { name := "clearPending", desc := "()V", sig := { parameters := [], returnType := none }, accessFlags := 2, code := some k2c17 }
def k2c18 : Code := { maxStack := 3, maxLocals := 3, code := prog_1_method_24_code, exceptionTable := #[], attributes := #[] }
def k2m18 : Method := { name := "acknowledge", desc := "()V", sig := { parameters := [], returnType := none }, accessFlags := 2, code := some k2c18 }
def k2c19 : Code := { maxStack := 4, maxLocals := 3, code := prog_1_method_25_code, exceptionTable := #[], attributes := #[] }
def k2m19 : Method := { name := "ageOthers", desc := "(I)V", sig := { parameters := [.int], returnType := none }, accessFlags := 2, code := some k2c19 }
def k2c20 : Code := { maxStack := 3, maxLocals := 2, code := prog_1_method_26_code, exceptionTable := #[], attributes := #[] }
def k2m20 : Method := { name := "clearAged", desc := "()V", sig := { parameters := [], returnType := none }, accessFlags := 2, code := some k2c20 }
def k2c21 : Code := { maxStack := 3, maxLocals := 2, code := prog_1_method_27_code, exceptionTable := #[], attributes := #[] }
def k2m21 : Method := { name := "markDirty", desc := "(I)V", sig := { parameters := [.int], returnType := none }, accessFlags := 2, code := some k2c21 }
def k2c22 : Code := { maxStack := 3, maxLocals := 2, code := prog_1_method_29_code, exceptionTable := #[], attributes := #[] }
def k2m22 : Method := { name := "clearBitmap", desc := "()V", sig := { parameters := [], returnType := none }, accessFlags := 2, code := some k2c22 }
def k2c23 : Code := { maxStack := 5, maxLocals := 9, code := prog_1_method_31_code, exceptionTable := #[], attributes := #[] }
def k2m23 : Method := { name := "copyDirtyRegions", desc := "(II)V", sig := { parameters := [.int, .int], returnType := none }, accessFlags := 2, code := some k2c23 }
/-- MirrorResync -/
def k2 : Class := { plain "MirrorResync" (some 0) with
  accessFlags := 49
  interfaces := #[]
  cf := some (fileOf pool2 8 #[] #[{ accessFlags := 1, nameIndex := 5, descriptorIndex := 137, attributes := #[] }, { accessFlags := 1, nameIndex := 140, descriptorIndex := 141, attributes := #[] }, { accessFlags := 1, nameIndex := 143, descriptorIndex := 93, attributes := #[] }, { accessFlags := 1, nameIndex := 144, descriptorIndex := 93, attributes := #[] }, { accessFlags := 1, nameIndex := 145, descriptorIndex := 93, attributes := #[] }, { accessFlags := 1, nameIndex := 149, descriptorIndex := 93, attributes := #[] }, { accessFlags := 1, nameIndex := 150, descriptorIndex := 83, attributes := #[] }, { accessFlags := 1, nameIndex := 151, descriptorIndex := 141, attributes := #[] }, { accessFlags := 1, nameIndex := 152, descriptorIndex := 83, attributes := #[] }, { accessFlags := 1, nameIndex := 153, descriptorIndex := 93, attributes := #[] }, { accessFlags := 1, nameIndex := 155, descriptorIndex := 107, attributes := #[] }, { accessFlags := 1, nameIndex := 156, descriptorIndex := 83, attributes := #[] }, { accessFlags := 10, nameIndex := 31, descriptorIndex := 32, attributes := #[] }, { accessFlags := 2, nameIndex := 64, descriptorIndex := 65, attributes := #[] }, { accessFlags := 2, nameIndex := 79, descriptorIndex := 65, attributes := #[] }, { accessFlags := 2, nameIndex := 106, descriptorIndex := 107, attributes := #[] }, { accessFlags := 2, nameIndex := 92, descriptorIndex := 93, attributes := #[] }, { accessFlags := 2, nameIndex := 76, descriptorIndex := 6, attributes := #[] }, { accessFlags := 2, nameIndex := 73, descriptorIndex := 6, attributes := #[] }, { accessFlags := 2, nameIndex := 103, descriptorIndex := 70, attributes := #[] }, { accessFlags := 2, nameIndex := 110, descriptorIndex := 6, attributes := #[] }, { accessFlags := 2, nameIndex := 69, descriptorIndex := 70, attributes := #[] }, { accessFlags := 2, nameIndex := 100, descriptorIndex := 6, attributes := #[] }, { accessFlags := 2, nameIndex := 96, descriptorIndex := 97, attributes := #[] }] 49 2 #[] #[{ accessFlags := 25, nameIndex := 111, descriptorIndex := 36, attributes := #[] }, { accessFlags := 25, nameIndex := 114, descriptorIndex := 36, attributes := #[] }, { accessFlags := 25, nameIndex := 116, descriptorIndex := 36, attributes := #[] }, { accessFlags := 25, nameIndex := 118, descriptorIndex := 36, attributes := #[] }, { accessFlags := 25, nameIndex := 120, descriptorIndex := 36, attributes := #[] }, { accessFlags := 25, nameIndex := 122, descriptorIndex := 36, attributes := #[] }, { accessFlags := 25, nameIndex := 124, descriptorIndex := 36, attributes := #[] }, { accessFlags := 25, nameIndex := 126, descriptorIndex := 36, attributes := #[] }, { accessFlags := 25, nameIndex := 128, descriptorIndex := 36, attributes := #[] }, { accessFlags := 25, nameIndex := 130, descriptorIndex := 36, attributes := #[] }, { accessFlags := 25, nameIndex := 131, descriptorIndex := 36, attributes := #[] }, { accessFlags := 25, nameIndex := 132, descriptorIndex := 36, attributes := #[] }, { accessFlags := 25, nameIndex := 133, descriptorIndex := 36, attributes := #[] }, { accessFlags := 25, nameIndex := 134, descriptorIndex := 36, attributes := #[] }, { accessFlags := 26, nameIndex := 135, descriptorIndex := 36, attributes := #[] }, { accessFlags := 2, nameIndex := 11, descriptorIndex := 12, attributes := #[] }, { accessFlags := 2, nameIndex := 15, descriptorIndex := 12, attributes := #[] }, { accessFlags := 2, nameIndex := 18, descriptorIndex := 12, attributes := #[] }, { accessFlags := 2, nameIndex := 21, descriptorIndex := 22, attributes := #[] }, { accessFlags := 2, nameIndex := 25, descriptorIndex := 22, attributes := #[] }, { accessFlags := 2, nameIndex := 28, descriptorIndex := 12, attributes := #[] }, { accessFlags := 2, nameIndex := 35, descriptorIndex := 36, attributes := #[] }, { accessFlags := 2, nameIndex := 39, descriptorIndex := 36, attributes := #[] }, { accessFlags := 2, nameIndex := 42, descriptorIndex := 36, attributes := #[] }, { accessFlags := 2, nameIndex := 45, descriptorIndex := 36, attributes := #[] }, { accessFlags := 2, nameIndex := 48, descriptorIndex := 49, attributes := #[] }, { accessFlags := 2, nameIndex := 52, descriptorIndex := 49, attributes := #[] }, { accessFlags := 2, nameIndex := 55, descriptorIndex := 36, attributes := #[] }, { accessFlags := 2, nameIndex := 58, descriptorIndex := 36, attributes := #[] }, { accessFlags := 2, nameIndex := 61, descriptorIndex := 36, attributes := #[] }])
  fields := #[{ name := "OK", type := .int, accessFlags := 25, slot := 0, constantValue := 0 }, { name := "ERR_DOWN", type := .int, accessFlags := 25, slot := 1, constantValue := 0 }, { name := "ERR_ARG", type := .int, accessFlags := 25, slot := 2, constantValue := 0 }, { name := "ERR_BUSY", type := .int, accessFlags := 25, slot := 3, constantValue := 0 }, { name := "ERR_STATE", type := .int, accessFlags := 25, slot := 4, constantValue := 0 }, { name := "ERR_IDLE", type := .int, accessFlags := 25, slot := 5, constantValue := 0 }, { name := "STEP_LEG0", type := .int, accessFlags := 25, slot := 6, constantValue := 0 }, { name := "STEP_LEG1", type := .int, accessFlags := 25, slot := 7, constantValue := 0 }, { name := "STEP_ACKED", type := .int, accessFlags := 25, slot := 8, constantValue := 0 }, { name := "ACTIVE", type := .int, accessFlags := 25, slot := 9, constantValue := 0 }, { name := "STALE", type := .int, accessFlags := 25, slot := 10, constantValue := 0 }, { name := "FAILED", type := .int, accessFlags := 25, slot := 11, constantValue := 0 }, { name := "NONE", type := .int, accessFlags := 25, slot := 12, constantValue := 0 }, { name := "MAX_VALUE", type := .int, accessFlags := 25, slot := 13, constantValue := 0 }, { name := "STRIDE", type := .int, accessFlags := 26, slot := 14, constantValue := 0 }, { name := "data", type := (.array .int), accessFlags := 2, slot := 0, constantValue := 0 }, { name := "acked", type := (.array .int), accessFlags := 2, slot := 1, constantValue := 0 }, { name := "state", type := (.array .int), accessFlags := 2, slot := 2, constantValue := 0 }, { name := "dirty", type := (.array .boolean), accessFlags := 2, slot := 3, constantValue := 0 }, { name := "pending", type := (.array .boolean), accessFlags := 2, slot := 4, constantValue := 0 }, { name := "age", type := (.array .int), accessFlags := 2, slot := 5, constantValue := 0 }, { name := "n", type := .int, accessFlags := 2, slot := 6, constantValue := 0 }, { name := "regionSize", type := .int, accessFlags := 2, slot := 7, constantValue := 0 }, { name := "clearDelay", type := .int, accessFlags := 2, slot := 8, constantValue := 0 }, { name := "regions", type := .int, accessFlags := 2, slot := 9, constantValue := 0 }, { name := "down", type := .boolean, accessFlags := 2, slot := 10, constantValue := 0 }, { name := "busy", type := .boolean, accessFlags := 2, slot := 11, constantValue := 0 }, { name := "pBlock", type := .int, accessFlags := 2, slot := 12, constantValue := 0 }, { name := "pValue", type := .int, accessFlags := 2, slot := 13, constantValue := 0 }, { name := "pCursor", type := .int, accessFlags := 2, slot := 14, constantValue := 0 }]
  methods := #[k2m0, k2m1, k2m2, k2m3, k2m4, k2m5, k2m6, k2m7, k2m8, k2m9, k2m10, k2m11, k2m12, k2m13, k2m14, k2m15, k2m16, k2m17, k2m18, k2m19, k2m20, k2m21, k2m22, k2m23]
  instanceTypes := #[(.array .int), (.array .int), (.array .int), (.array .boolean), (.array .boolean), (.array .int), .int, .int, .int, .int, .boolean, .boolean, .int, .int, .int]
  staticTypes := #[.int, .int, .int, .int, .int, .int, .int, .int, .int, .int, .int, .int, .int, .int, .int]
  resolved := Array.replicate 159 none
  statics := none }

def pool3 : Array CpInfo := pool [(1, u "java/lang/Cloneable"), (0, .class_ 1), (0, u "java/lang/Object"), (0, .class_ 3)] 3

/-- java/lang/Cloneable -/
def k3 : Class := { plain "java/lang/Cloneable" (some 0) with
  accessFlags := 1537
  interfaces := #[]
  cf := some (fileOf pool3 2 #[] #[] 1537 4 #[] #[])
  fields := #[]
  methods := #[]
  instanceTypes := #[]
  staticTypes := #[]
  resolved := Array.replicate 8 none
  statics := none }

def pool4 : Array CpInfo := pool [(1, u "java/io/Serializable"), (0, .class_ 1), (0, u "java/lang/Object"), (0, .class_ 3)] 3

/-- java/io/Serializable -/
def k4 : Class := { plain "java/io/Serializable" (some 0) with
  accessFlags := 1537
  interfaces := #[]
  cf := some (fileOf pool4 2 #[] #[] 1537 4 #[] #[])
  fields := #[]
  methods := #[]
  instanceTypes := #[]
  staticTypes := #[]
  resolved := Array.replicate 8 none
  statics := none }

/-- the primitive boolean -/
def k5 : Class := { plain "boolean" none with kind := .primitive 'Z', accessFlags := 0x411 }
/-- [Z -/
def k6 : Class := { plain "[Z" (some 0) with kind := .array 5 .boolean, interfaces := #[3, 4], accessFlags := 1041 }

/-- the primitive byte -/
def k7 : Class := { plain "byte" none with kind := .primitive 'B', accessFlags := 0x411 }
/-- [B -/
def k8 : Class := { plain "[B" (some 0) with kind := .array 7 .byte, interfaces := #[3, 4], accessFlags := 1041 }

/-- the primitive int -/
def k9 : Class := { plain "int" none with kind := .primitive 'I', accessFlags := 0x411 }
/-- [I -/
def k10 : Class := { plain "[I" (some 0) with kind := .array 9 .int, interfaces := #[3, 4], accessFlags := 1041 }

def heap : Heap := #[]
def classes : Array Class := #[k0, k1, k2, k3, k4, k5, k6, k7, k8, k9, k10]
def interned : List (Array UInt16 × Addr) := []
def slotsUsed : Nat := 0
def theMethod : MethodId := ⟨1, 1⟩
def args0 : Array Value := #[.int 2, .int 1, .int 3, .int 5, .int 9, .int 11]
def aboutOver (below : List Frame) : State where
  vm := { classes := classes, interned := interned.toArray }
  heap := heap
  slotsUsed := slotsUsed
  threads := #[{ frames := .invoking theMethod args0 :: below }]
def below0 : List Frame := [.native { method := ⟨0, 0⟩, args := #[] }]
def about1 : State := aboutOver below0
def p0 : Program := .bare "" "" ""
def e0 : Env := launch0.env 0 0 0
theorem w_frames : about1.frames = Frame.invoking theMethod args0 :: below0 := rfl
set_option maxRecDepth 65536 in
theorem w_args : argsFit about1.vm theMethod args0 = true := by decide +kernel
set_option maxRecDepth 65536 in
theorem w_heap : heapFits about1 = true := by decide +kernel
set_option maxRecDepth 65536 in
theorem w_runnable : about1.curStatus? = some .runnable := by decide +kernel
set_option maxRecDepth 65536 in
theorem w_alone : about1.alone = true := by decide +kernel
set_option maxRecDepth 65536 in
theorem w_named : about1.methodNamed? x = some theMethod := by decide +kernel
set_option maxRecDepth 65536 in
theorem w_hears : about1.hears theMethod below0 = true := by decide +kernel
set_option maxRecDepth 65536 in
theorem w_ripe : about1.ripe theMethod args0 below0 = true := by decide +kernel
theorem w_running : about1.status = .running := rfl
set_option maxRecDepth 65536 in
theorem w_room : about1.hasRoom e0.platform room_1 = true :=
  launch0.hasRoom_least _ room_1 (by decide +kernel) (by decide +kernel) (by decide +kernel) (by decide +kernel) (by decide +kernel) (by decide +kernel)
theorem allAtoms_all (ts : List Jvm.Cond) (a : Array Jvm.Value) (st : Jvm.State) : (allAtoms ts).before a st = ts.all (fun c => c.before a st) := by
  induction ts with
  | nil => rfl
  | cons c t ih =>
    show (Jvm.Cond.and c (allAtoms t)).before a st = _
    rw [Jvm.Cond.before_and, ih, List.all_cons]
def words1 : List Jvm.Cond := Jvm.Cond.code x code maxLocals ret :: tables_1
/-- a 'code' word, met by the world's own term for the bytes: nothing is compared byte by byte -/
theorem code_word {y : MethodName} {bytes : ByteArray} {mx : Nat} {rt : Option FieldType} {a : Array Value} {s : State} {m : MethodId} {meth : Method} {c : Code} (h1 : s.methodNamed? y = some m) (h2 : s.vm.method? m = some meth) (h3 : meth.code = some c) (h4 : c.code = bytes)
    (h5 : (c.maxLocals == mx && c.exceptionTable.isEmpty && decide (c.maxStack ≤ mostOperands) && decide (meth.sig.returnType = rt) && !meth.locks && decide (parseMethodDescriptor y.desc = some meth.sig)) = true) : (Jvm.Cond.code y bytes mx rt).before a s = true := by
  simp only [Bool.and_eq_true, beq_iff_eq, Bool.not_eq_true', decide_eq_true_eq] at h5
  obtain ⟨⟨⟨⟨⟨g1, g2⟩, g3⟩, g4⟩, g5⟩, g6⟩ := h5
  simp [Cond.before, Cond.holds, Cond.value, h1, h2, h3, h4, g1, g2, g3, g4, g5, g6]
def isCode : Jvm.Cond → Bool
  | .code _ _ _ _ => true
  | _ => false
theorem all_split {L : List Jvm.Cond} {P : Jvm.Cond → Bool} (h1 : L.all (fun c => isCode c || P c) = true) (h2 : ∀ c ∈ L.filter isCode, P c = true) : L.all P = true := by
  refine List.all_eq_true.mpr fun c hc => ?_
  have h := List.all_eq_true.mp h1 c hc
  rcases Bool.eq_false_or_eq_true (isCode c) with hi | hi
  · exact h2 c (List.mem_filter.mpr ⟨hc, hi⟩)
  · simpa [hi] using h
set_option maxRecDepth 65536 in
theorem w_c0 : (Jvm.Cond.code x code maxLocals ret).before args0 about1 = true := code_word (m := ⟨1, 1⟩) (meth := k1m1) (c := k1c1) (by decide +kernel) rfl rfl rfl (by decide +kernel)
set_option maxRecDepth 65536 in
theorem w_c1 : (Jvm.Cond.code ({ cls := "MirrorResync", name := "<init>", desc := "(III)V" } : Jvm.MethodName) prog_1_method_1_code (4 : Nat) (Option.none : Option Jvm.ClassFile.FieldType)).before args0 about1 = true := code_word (m := ⟨2, 0⟩) (meth := k2m0) (c := k2c0) (by decide +kernel) rfl rfl rfl (by decide +kernel)
set_option maxRecDepth 65536 in
theorem w_c2 : (Jvm.Cond.code ({ cls := "java/lang/Object", name := "<init>", desc := "()V" } : Jvm.MethodName) object_method_1_code (1 : Nat) (Option.none : Option Jvm.ClassFile.FieldType)).before args0 about1 = true := code_word (m := ⟨0, 0⟩) (meth := k0m0) (c := k0c0) (by decide +kernel) rfl rfl rfl (by decide +kernel)
set_option maxRecDepth 65536 in
theorem w_c3 : (Jvm.Cond.code ({ cls := "MirrorResync", name := "clamp", desc := "(III)I" } : Jvm.MethodName) prog_1_method_17_code (3 : Nat) (Option.some Jvm.ClassFile.FieldType.int)).before args0 about1 = true := code_word (m := ⟨2, 12⟩) (meth := k2m12) (c := k2c12) (by decide +kernel) rfl rfl rfl (by decide +kernel)
set_option maxRecDepth 65536 in
theorem w_c4 : (Jvm.Cond.code ({ cls := "MirrorResync", name := "write", desc := "(II)I" } : Jvm.MethodName) prog_1_method_2_code (3 : Nat) (Option.some Jvm.ClassFile.FieldType.int)).before args0 about1 = true := code_word (m := ⟨2, 1⟩) (meth := k2m1) (c := k2c1) (by decide +kernel) rfl rfl rfl (by decide +kernel)
set_option maxRecDepth 65536 in
theorem w_c5 : (Jvm.Cond.code ({ cls := "MirrorResync", name := "validBlock", desc := "(I)Z" } : Jvm.MethodName) prog_1_method_18_code (2 : Nat) (Option.some Jvm.ClassFile.FieldType.boolean)).before args0 about1 = true := code_word (m := ⟨2, 13⟩) (meth := k2m13) (c := k2c13) (by decide +kernel) rfl rfl rfl (by decide +kernel)
set_option maxRecDepth 65536 in
theorem w_c6 : (Jvm.Cond.code ({ cls := "MirrorResync", name := "markDirty", desc := "(I)V" } : Jvm.MethodName) prog_1_method_27_code (2 : Nat) (Option.none : Option Jvm.ClassFile.FieldType)).before args0 about1 = true := code_word (m := ⟨2, 21⟩) (meth := k2m21) (c := k2c21) (by decide +kernel) rfl rfl rfl (by decide +kernel)
set_option maxRecDepth 65536 in
theorem w_c7 : (Jvm.Cond.code ({ cls := "MirrorResync", name := "step", desc := "()I" } : Jvm.MethodName) prog_1_method_3_code (2 : Nat) (Option.some Jvm.ClassFile.FieldType.int)).before args0 about1 = true := code_word (m := ⟨2, 2⟩) (meth := k2m2) (c := k2c2) (by decide +kernel) rfl rfl rfl (by decide +kernel)
set_option maxRecDepth 65536 in
theorem w_c8 : (Jvm.Cond.code ({ cls := "MirrorResync", name := "acknowledge", desc := "()V" } : Jvm.MethodName) prog_1_method_24_code (3 : Nat) (Option.none : Option Jvm.ClassFile.FieldType)).before args0 about1 = true := code_word (m := ⟨2, 18⟩) (meth := k2m18) (c := k2c18) (by decide +kernel) rfl rfl rfl (by decide +kernel)
set_option maxRecDepth 65536 in
theorem w_c9 : (Jvm.Cond.code ({ cls := "MirrorResync", name := "clearPending", desc := "()V" } : Jvm.MethodName) prog_1_method_23_code (1 : Nat) (Option.none : Option Jvm.ClassFile.FieldType)).before args0 about1 = true := code_word (m := ⟨2, 17⟩) (meth := k2m17) (c := k2c17) (by decide +kernel) rfl rfl rfl (by decide +kernel)
set_option maxRecDepth 65536 in
theorem w_c10 : (Jvm.Cond.code ({ cls := "MirrorResync", name := "ageOthers", desc := "(I)V" } : Jvm.MethodName) prog_1_method_25_code (3 : Nat) (Option.none : Option Jvm.ClassFile.FieldType)).before args0 about1 = true := code_word (m := ⟨2, 19⟩) (meth := k2m19) (c := k2c19) (by decide +kernel) rfl rfl rfl (by decide +kernel)
set_option maxRecDepth 65536 in
theorem w_c11 : (Jvm.Cond.code ({ cls := "MirrorResync", name := "bothActive", desc := "()Z" } : Jvm.MethodName) prog_1_method_20_code (1 : Nat) (Option.some Jvm.ClassFile.FieldType.boolean)).before args0 about1 = true := code_word (m := ⟨2, 15⟩) (meth := k2m15) (c := k2c15) (by decide +kernel) rfl rfl rfl (by decide +kernel)
set_option maxRecDepth 65536 in
theorem w_c12 : (Jvm.Cond.code ({ cls := "MirrorResync", name := "clearAged", desc := "()V" } : Jvm.MethodName) prog_1_method_26_code (2 : Nat) (Option.none : Option Jvm.ClassFile.FieldType)).before args0 about1 = true := code_word (m := ⟨2, 20⟩) (meth := k2m20) (c := k2c20) (by decide +kernel) rfl rfl rfl (by decide +kernel)
set_option maxRecDepth 65536 in
theorem w_c13 : (Jvm.Cond.code ({ cls := "MirrorResync", name := "crash", desc := "()I" } : Jvm.MethodName) prog_1_method_4_code (1 : Nat) (Option.some Jvm.ClassFile.FieldType.int)).before args0 about1 = true := code_word (m := ⟨2, 3⟩) (meth := k2m3) (c := k2c3) (by decide +kernel) rfl rfl rfl (by decide +kernel)
set_option maxRecDepth 65536 in
theorem w_c14 : (Jvm.Cond.code ({ cls := "MirrorResync", name := "pendingBlock", desc := "()I" } : Jvm.MethodName) prog_1_method_13_code (1 : Nat) (Option.some Jvm.ClassFile.FieldType.int)).before args0 about1 = true := code_word (m := ⟨2, 9⟩) (meth := k2m9) (c := k2c9) (by decide +kernel) rfl rfl rfl (by decide +kernel)
set_option maxRecDepth 65536 in
theorem w_c15 : (Jvm.Cond.code ({ cls := "MirrorResync", name := "isDown", desc := "()Z" } : Jvm.MethodName) prog_1_method_15_code (1 : Nat) (Option.some Jvm.ClassFile.FieldType.boolean)).before args0 about1 = true := code_word (m := ⟨2, 10⟩) (meth := k2m10) (c := k2c10) (by decide +kernel) rfl rfl rfl (by decide +kernel)
set_option maxRecDepth 65536 in
theorem w_c16 : (Jvm.Cond.code ({ cls := "MirrorResync", name := "read", desc := "(I)I" } : Jvm.MethodName) prog_1_method_10_code (3 : Nat) (Option.some Jvm.ClassFile.FieldType.int)).before args0 about1 = true := code_word (m := ⟨2, 6⟩) (meth := k2m6) (c := k2c6) (by decide +kernel) rfl rfl rfl (by decide +kernel)
set_option maxRecDepth 65536 in
theorem w_c17 : (Jvm.Cond.code ({ cls := "MirrorResync", name := "restart", desc := "()I" } : Jvm.MethodName) prog_1_method_5_code (1 : Nat) (Option.some Jvm.ClassFile.FieldType.int)).before args0 about1 = true := code_word (m := ⟨2, 4⟩) (meth := k2m4) (c := k2c4) (by decide +kernel) rfl rfl rfl (by decide +kernel)
set_option maxRecDepth 65536 in
theorem w_c18 : (Jvm.Cond.code ({ cls := "MirrorResync", name := "legState", desc := "(I)I" } : Jvm.MethodName) prog_1_method_12_code (2 : Nat) (Option.some Jvm.ClassFile.FieldType.int)).before args0 about1 = true := code_word (m := ⟨2, 8⟩) (meth := k2m8) (c := k2c8) (by decide +kernel) rfl rfl rfl (by decide +kernel)
set_option maxRecDepth 65536 in
theorem w_c19 : (Jvm.Cond.code ({ cls := "MirrorResync", name := "validLeg", desc := "(I)Z" } : Jvm.MethodName) prog_1_method_19_code (2 : Nat) (Option.some Jvm.ClassFile.FieldType.boolean)).before args0 about1 = true := code_word (m := ⟨2, 14⟩) (meth := k2m14) (c := k2c14) (by decide +kernel) rfl rfl rfl (by decide +kernel)
set_option maxRecDepth 65536 in
theorem w_c20 : (Jvm.Cond.code ({ cls := "MirrorResync", name := "peek", desc := "(II)I" } : Jvm.MethodName) prog_1_method_11_code (3 : Nat) (Option.some Jvm.ClassFile.FieldType.int)).before args0 about1 = true := code_word (m := ⟨2, 7⟩) (meth := k2m7) (c := k2c7) (by decide +kernel) rfl rfl rfl (by decide +kernel)
set_option maxRecDepth 65536 in
theorem w_c21 : (Jvm.Cond.code ({ cls := "MirrorResync", name := "ackedValue", desc := "(I)I" } : Jvm.MethodName) prog_1_method_16_code (2 : Nat) (Option.some Jvm.ClassFile.FieldType.int)).before args0 about1 = true := code_word (m := ⟨2, 11⟩) (meth := k2m11) (c := k2c11) (by decide +kernel) rfl rfl rfl (by decide +kernel)
set_option maxRecDepth 65536 in
theorem w_c22 : (Jvm.Cond.code ({ cls := "MirrorResync", name := "resync", desc := "()I" } : Jvm.MethodName) prog_1_method_9_code (2 : Nat) (Option.some Jvm.ClassFile.FieldType.int)).before args0 about1 = true := code_word (m := ⟨2, 5⟩) (meth := k2m5) (c := k2c5) (by decide +kernel) rfl rfl rfl (by decide +kernel)
set_option maxRecDepth 65536 in
theorem w_c23 : (Jvm.Cond.code ({ cls := "MirrorResync", name := "staleLeg", desc := "()I" } : Jvm.MethodName) prog_1_method_22_code (1 : Nat) (Option.some Jvm.ClassFile.FieldType.int)).before args0 about1 = true := code_word (m := ⟨2, 16⟩) (meth := k2m16) (c := k2c16) (by decide +kernel) rfl rfl rfl (by decide +kernel)
set_option maxRecDepth 65536 in
theorem w_c24 : (Jvm.Cond.code ({ cls := "MirrorResync", name := "copyDirtyRegions", desc := "(II)V" } : Jvm.MethodName) prog_1_method_31_code (9 : Nat) (Option.none : Option Jvm.ClassFile.FieldType)).before args0 about1 = true := code_word (m := ⟨2, 23⟩) (meth := k2m23) (c := k2c23) (by decide +kernel) rfl rfl rfl (by decide +kernel)
set_option maxRecDepth 65536 in
theorem w_c25 : (Jvm.Cond.code ({ cls := "MirrorResync", name := "clearBitmap", desc := "()V" } : Jvm.MethodName) prog_1_method_29_code (2 : Nat) (Option.none : Option Jvm.ClassFile.FieldType)).before args0 about1 = true := code_word (m := ⟨2, 22⟩) (meth := k2m22) (c := k2c22) (by decide +kernel) rfl rfl rfl (by decide +kernel)
def codes1 : List Jvm.Cond := [Jvm.Cond.code x code maxLocals ret, Jvm.Cond.code ({ cls := "MirrorResync", name := "<init>", desc := "(III)V" } : Jvm.MethodName) prog_1_method_1_code (4 : Nat) (Option.none : Option Jvm.ClassFile.FieldType), Jvm.Cond.code ({ cls := "java/lang/Object", name := "<init>", desc := "()V" } : Jvm.MethodName) object_method_1_code (1 : Nat) (Option.none : Option Jvm.ClassFile.FieldType), Jvm.Cond.code ({ cls := "MirrorResync", name := "clamp", desc := "(III)I" } : Jvm.MethodName) prog_1_method_17_code (3 : Nat) (Option.some Jvm.ClassFile.FieldType.int), Jvm.Cond.code ({ cls := "MirrorResync", name := "write", desc := "(II)I" } : Jvm.MethodName) prog_1_method_2_code (3 : Nat) (Option.some Jvm.ClassFile.FieldType.int), Jvm.Cond.code ({ cls := "MirrorResync", name := "validBlock", desc := "(I)Z" } : Jvm.MethodName) prog_1_method_18_code (2 : Nat) (Option.some Jvm.ClassFile.FieldType.boolean), Jvm.Cond.code ({ cls := "MirrorResync", name := "markDirty", desc := "(I)V" } : Jvm.MethodName) prog_1_method_27_code (2 : Nat) (Option.none : Option Jvm.ClassFile.FieldType), Jvm.Cond.code ({ cls := "MirrorResync", name := "step", desc := "()I" } : Jvm.MethodName) prog_1_method_3_code (2 : Nat) (Option.some Jvm.ClassFile.FieldType.int), Jvm.Cond.code ({ cls := "MirrorResync", name := "acknowledge", desc := "()V" } : Jvm.MethodName) prog_1_method_24_code (3 : Nat) (Option.none : Option Jvm.ClassFile.FieldType), Jvm.Cond.code ({ cls := "MirrorResync", name := "clearPending", desc := "()V" } : Jvm.MethodName) prog_1_method_23_code (1 : Nat) (Option.none : Option Jvm.ClassFile.FieldType), Jvm.Cond.code ({ cls := "MirrorResync", name := "ageOthers", desc := "(I)V" } : Jvm.MethodName) prog_1_method_25_code (3 : Nat) (Option.none : Option Jvm.ClassFile.FieldType), Jvm.Cond.code ({ cls := "MirrorResync", name := "bothActive", desc := "()Z" } : Jvm.MethodName) prog_1_method_20_code (1 : Nat) (Option.some Jvm.ClassFile.FieldType.boolean), Jvm.Cond.code ({ cls := "MirrorResync", name := "clearAged", desc := "()V" } : Jvm.MethodName) prog_1_method_26_code (2 : Nat) (Option.none : Option Jvm.ClassFile.FieldType), Jvm.Cond.code ({ cls := "MirrorResync", name := "crash", desc := "()I" } : Jvm.MethodName) prog_1_method_4_code (1 : Nat) (Option.some Jvm.ClassFile.FieldType.int), Jvm.Cond.code ({ cls := "MirrorResync", name := "pendingBlock", desc := "()I" } : Jvm.MethodName) prog_1_method_13_code (1 : Nat) (Option.some Jvm.ClassFile.FieldType.int), Jvm.Cond.code ({ cls := "MirrorResync", name := "isDown", desc := "()Z" } : Jvm.MethodName) prog_1_method_15_code (1 : Nat) (Option.some Jvm.ClassFile.FieldType.boolean), Jvm.Cond.code ({ cls := "MirrorResync", name := "read", desc := "(I)I" } : Jvm.MethodName) prog_1_method_10_code (3 : Nat) (Option.some Jvm.ClassFile.FieldType.int), Jvm.Cond.code ({ cls := "MirrorResync", name := "restart", desc := "()I" } : Jvm.MethodName) prog_1_method_5_code (1 : Nat) (Option.some Jvm.ClassFile.FieldType.int), Jvm.Cond.code ({ cls := "MirrorResync", name := "legState", desc := "(I)I" } : Jvm.MethodName) prog_1_method_12_code (2 : Nat) (Option.some Jvm.ClassFile.FieldType.int), Jvm.Cond.code ({ cls := "MirrorResync", name := "validLeg", desc := "(I)Z" } : Jvm.MethodName) prog_1_method_19_code (2 : Nat) (Option.some Jvm.ClassFile.FieldType.boolean), Jvm.Cond.code ({ cls := "MirrorResync", name := "peek", desc := "(II)I" } : Jvm.MethodName) prog_1_method_11_code (3 : Nat) (Option.some Jvm.ClassFile.FieldType.int), Jvm.Cond.code ({ cls := "MirrorResync", name := "ackedValue", desc := "(I)I" } : Jvm.MethodName) prog_1_method_16_code (2 : Nat) (Option.some Jvm.ClassFile.FieldType.int), Jvm.Cond.code ({ cls := "MirrorResync", name := "resync", desc := "()I" } : Jvm.MethodName) prog_1_method_9_code (2 : Nat) (Option.some Jvm.ClassFile.FieldType.int), Jvm.Cond.code ({ cls := "MirrorResync", name := "staleLeg", desc := "()I" } : Jvm.MethodName) prog_1_method_22_code (1 : Nat) (Option.some Jvm.ClassFile.FieldType.int), Jvm.Cond.code ({ cls := "MirrorResync", name := "copyDirtyRegions", desc := "(II)V" } : Jvm.MethodName) prog_1_method_31_code (9 : Nat) (Option.none : Option Jvm.ClassFile.FieldType), Jvm.Cond.code ({ cls := "MirrorResync", name := "clearBitmap", desc := "()V" } : Jvm.MethodName) prog_1_method_29_code (2 : Nat) (Option.none : Option Jvm.ClassFile.FieldType)]
set_option maxRecDepth 65536 in
theorem codes_eq : words1.filter isCode = codes1 := rfl
theorem w_codes : ∀ c ∈ words1.filter isCode, c.before args0 about1 = true := by
  rw [codes_eq]
  intro c hc
  simp only [codes1, List.mem_cons, List.not_mem_nil, or_false] at hc
  rcases hc with rfl | rfl | rfl | rfl | rfl | rfl | rfl | rfl | rfl | rfl | rfl | rfl | rfl | rfl | rfl | rfl | rfl | rfl | rfl | rfl | rfl | rfl | rfl | rfl | rfl | rfl
  · exact w_c0
  · exact w_c1
  · exact w_c2
  · exact w_c3
  · exact w_c4
  · exact w_c5
  · exact w_c6
  · exact w_c7
  · exact w_c8
  · exact w_c9
  · exact w_c10
  · exact w_c11
  · exact w_c12
  · exact w_c13
  · exact w_c14
  · exact w_c15
  · exact w_c16
  · exact w_c17
  · exact w_c18
  · exact w_c19
  · exact w_c20
  · exact w_c21
  · exact w_c22
  · exact w_c23
  · exact w_c24
  · exact w_c25
set_option maxRecDepth 65536 in
theorem w_t1 : (words1.take 24).all (fun c => isCode c || c.before args0 about1) = true := by decide +kernel
set_option maxRecDepth 65536 in
theorem w_t2 : ((words1.drop 24).take 24).all (fun c => isCode c || c.before args0 about1) = true := by decide +kernel
set_option maxRecDepth 65536 in
theorem w_t3 : (((words1.drop 24).drop 24).take 24).all (fun c => isCode c || c.before args0 about1) = true := by decide +kernel
set_option maxRecDepth 65536 in
theorem w_t4 : ((((words1.drop 24).drop 24).drop 24).take 24).all (fun c => isCode c || c.before args0 about1) = true := by decide +kernel
set_option maxRecDepth 65536 in
theorem w_t5 : (((((words1.drop 24).drop 24).drop 24).drop 24).take 24).all (fun c => isCode c || c.before args0 about1) = true := by decide +kernel
set_option maxRecDepth 65536 in
theorem w_t6 : ((((((words1.drop 24).drop 24).drop 24).drop 24).drop 24).take 24).all (fun c => isCode c || c.before args0 about1) = true := by decide +kernel
set_option maxRecDepth 65536 in
theorem w_t7 : ((((((words1.drop 24).drop 24).drop 24).drop 24).drop 24).drop 24).all (fun c => isCode c || c.before args0 about1) = true := by decide +kernel
theorem w_tables : (allAtoms (Jvm.Cond.code x code maxLocals ret :: tables_1)).before args0 about1 = true := by
  rw [allAtoms_all]
  show words1.all (fun c => c.before args0 about1) = true
  refine all_split ?_ w_codes
  rw [← List.take_append_drop 24 words1, List.all_append, w_t1, ← List.take_append_drop 24 (words1.drop 24), List.all_append, w_t2, ← List.take_append_drop 24 ((words1.drop 24).drop 24), List.all_append, w_t3, ← List.take_append_drop 24 (((words1.drop 24).drop 24).drop 24), List.all_append, w_t4, ← List.take_append_drop 24 ((((words1.drop 24).drop 24).drop 24).drop 24), List.all_append, w_t5, ← List.take_append_drop 24 (((((words1.drop 24).drop 24).drop 24).drop 24).drop 24), List.all_append, w_t6, w_t7]
  rfl
set_option maxRecDepth 65536 in
theorem w_case : (Jvm.Cond.and given_1 narrow_1).before args0 about1 = true := by decide +kernel
theorem w_applies : (headSpec (Jvm.Cond.code x code maxLocals ret :: tables_1) room_1).applies x e0.platform about1 = true :=
  (Spec.applies_iff w_frames).mpr ⟨w_running, w_runnable, w_alone, w_named, w_hears, w_ripe, w_room, w_tables⟩
theorem atStart : AtStart classFile x code maxLocals ret World_1 tables_1 room_1 Calls_1 rest_1 Pre_1 launch0 p0 e0 about1 theMethod args0 below0 :=
  ⟨lists_1, trivial, launch0.admits_env _ _ _, launch0.least_env, fairChoices_fair.cas, fairChoices_fair.clock, w_frames, w_args, w_heap, w_applies, trivial, trivial, w_case⟩
end start1
theorem witness_1 : WitnessClaimed_1 := ⟨start1.p0, start1.e0, start1.about1, start1.theMethod, start1.args0, start1.below0, start1.atStart⟩
end Jvm.Pilot.@@N@@
