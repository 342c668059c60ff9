import JvmDerived
import JvmDerived.Pilot.@@N@@Statement
import JvmDerived.Pilot.@@N@@Code
set_option linter.unusedVariables false
set_option linter.unusedSimpArgs false
namespace Jvm.RoadKit
open Sem ClassFile Op Lib Jvm.Stand Jvm.Free Jvm.LawKit
section New
variable {p : Program} {l : Launch} {e : Env} {R : Room} {s : State} {m : MethodId} {args : Array Value} {below : List Frame} {meth : Method} {c : Code} {T : State} {locs : List Loc} {cells slots : Nat}
theorem retI (X : Stand p l e R s m args below meth c T locs cells slots) (hx : p.tables.exec = Jvm.exec) {pc : Nat} {Ls : Array Slot} {z : Int32} {rest : List Value} (hret : meth.sig.returnType = some .int) (hd : decode c.code pc = .ok (.ireturn, 1)) {fs : List Frame}
    (hl : ∀ (f : JFrame) (acts : List Action), f.method = m → f.locked = none → f.entered = [] → (doReturn e (T.setTop f) acts (some (.int z))).1 = T.setFrames fs) : Steps p.tables e below (T.setTop (mkF m pc Ls (.int z :: rest))) (T.setFrames fs) := by
  have hm' : T.vm.method? m = some meth := X.method'
  have hn : narrow .int (.int z) = .int z := rfl
  show Steps p.tables e below (T.setTop { method := m, pc := pc, locals := Ls, stack := _ :: rest, locked := none }) _
  jvm_step X.here [X.here.top, hx, hd, hm', hret, hn]
  first | (intro acts; rw [hl _ acts rfl rfl rfl]) | rw [hl _ _ rfl rfl rfl]
  exact Steps.refl _
end New
end Jvm.RoadKit
namespace Jvm.Pilot.@@N@@
open Jvm Jvm.ClassFile Sem Op Lib Jvm.Free Jvm.Stand Jvm.LawKit Jvm.RoadKit Bundle Jvm.Pilot.@@N@@.Jvm.D
/- records: scalars, int-like arrays, long arrays -/
abbrev Rec : Type := (Nat → Int32) × (Nat → Int32 → Int32) × (Nat → Int32 → Int64)
def zrec : Rec := (fun _ => 0, fun _ _ => 0, fun _ _ => 0)
def gI (ob : Rec) (k : Nat) : Int32 := ob.1 k
def gA (ob : Rec) (k : Nat) (i : Int32) : Int32 := ob.2.1 k i
def gJ (ob : Rec) (k : Nat) (i : Int32) : Int64 := ob.2.2 k i
def sI (ob : Rec) (k : Nat) (v : Int32) : Rec := (fun j => if j = k then v else ob.1 j, ob.2)
def sA (ob : Rec) (k : Nat) (i v : Int32) : Rec := (ob.1, fun j x => if j = k ∧ x = i then v else ob.2.1 j x, ob.2.2)
def sJ (ob : Rec) (k : Nat) (i : Int32) (v : Int64) : Rec := (ob.1, ob.2.1, fun j x => if j = k ∧ x = i then v else ob.2.2 j x)
def chk {γ : Type} (n i : Int32) (A : Option γ) : Option γ := if i < 0 then none else if i < n then A else none
def dvz {γ : Type} (y : Int32) (A : Option γ) : Option γ := if y = 0 then none else A
def bind2 {α β γ : Type} (o : Option (α × β)) (f : α → β → Option γ) : Option γ := o.bind fun q => f q.1 q.2
def bind3 {α β γ δ : Type} (o : Option (α × β × δ)) (f : α → β → δ → Option γ) : Option γ := o.bind fun q => f q.1 q.2.1 q.2.2
theorem ite_el {c : Prop} [Decidable c] {γ : Type} {A B : Option γ} {r : γ} {Q : Prop} (h : (if c then A else B) = some r) (t : c → A = some r → Q) (e : ¬ c → B = some r → Q) : Q := by
  by_cases hc : c
  · rw [if_pos hc] at h; exact t hc h
  · rw [if_neg hc] at h; exact e hc h
theorem bind_el {α γ : Type} {o : Option α} {f : α → Option γ} {r : γ} {Q : Prop} (h : o.bind f = some r) (k : ∀ x, o = some x → f x = some r → Q) : Q := by
  cases o with
  | none => cases h
  | some x => exact k x rfl h
theorem bind2_el {α β γ : Type} {o : Option (α × β)} {f : α → β → Option γ} {r : γ} {Q : Prop} (h : bind2 o f = some r) (k : ∀ x y, o = some (x, y) → f x y = some r → Q) : Q := by
  rcases o with _ | ⟨x, y⟩
  · cases h
  · exact k x y rfl h
theorem bind3_el {α β γ δ : Type} {o : Option (α × β × δ)} {f : α → β → δ → Option γ} {r : γ} {Q : Prop} (h : bind3 o f = some r) (k : ∀ x y z, o = some (x, y, z) → f x y z = some r → Q) : Q := by
  rcases o with _ | ⟨x, y, z⟩
  · cases h
  · exact k x y z rfl h
theorem chk_el {γ : Type} {n i : Int32} {A : Option γ} {r : γ} {Q : Prop} (h : chk n i A = some r) (k : (¬ i < 0 ∧ i < n) → A = some r → Q) : Q := by
  unfold chk at h
  by_cases h0 : i < 0
  · rw [if_pos h0] at h; cases h
  · rw [if_neg h0] at h
    by_cases h1 : i < n
    · rw [if_pos h1] at h; exact k ⟨h0, h1⟩ h
    · rw [if_neg h1] at h; cases h
theorem dvz_el {γ : Type} {y : Int32} {A : Option γ} {r : γ} {Q : Prop} (h : dvz y A = some r) (k : y ≠ 0 → A = some r → Q) : Q := by
  unfold dvz at h
  by_cases h0 : y = 0
  · rw [if_pos h0] at h; cases h
  · rw [if_neg h0] at h; exact k h0 h
def All {α : Type} (p : α → Prop) : List α → Prop
  | [] => True
  | x :: l => p x ∧ All p l
theorem All.mem {α : Type} {p : α → Prop} : ∀ {l : List α}, All p l → ∀ {x : α}, x ∈ l → p x
  | [], _, _, h => nomatch h
  | _ :: _, H, _, h => (List.mem_cons.mp h).elim (fun e => e ▸ H.1) (fun e => All.mem H.2 e)
def el (ty : FieldType) (ob : Rec) (k : Nat) (j : Int32) : Value := match ty with
  | .long => .long (ob.2.2 k j)
  | _ => .int (ob.2.1 k j)
def aD (ty : FieldType) : String := match ty with
  | .int => "[I"
  | .boolean => "[Z"
  | _ => "[J"
abbrev Cls : Type := String × List (String × String) × List (String × FieldType × Int32)
abbrev mem1 (k : Nat) {d : Jvm.Cond} (h : tables_1[k]? = some d) : d ∈ tables_1 := List.mem_of_getElem? h
abbrev sOk (C : String) (nd : String × String) : Prop := (Jvm.Cond.lays C C nd.1 nd.2 ∈ tables_1 ∨ Jvm.Cond.laysFinal C C nd.1 nd.2 ∈ tables_1) ∧ (nd.2 = "I" ∨ nd.2 = "Z")
abbrev aOk (C : String) (t : String × FieldType × Int32) : Prop := (Jvm.Cond.lays C C t.1 (aD t.2.1) ∈ tables_1 ∨ Jvm.Cond.laysFinal C C t.1 (aD t.2.1) ∈ tables_1) ∧ (t.2.1 = .int ∨ t.2.1 = .boolean ∨ t.2.1 = .long) ∧ ¬ t.2.2 < 0
def K : Cls := ("MirrorResync", [("n", "I"), ("regionSize", "I"), ("clearDelay", "I"), ("regions", "I"), ("down", "Z"), ("busy", "Z"), ("pBlock", "I"), ("pValue", "I"), ("pCursor", "I")], [("data", .int, 64), ("acked", .int, 32), ("state", .int, 2), ("dirty", .boolean, 32), ("pending", .boolean, 32), ("age", .int, 32)])
theorem kS : All (sOk K.1) K.2.1 := ⟨⟨Or.inl (mem1 27 rfl), Or.inl rfl⟩, ⟨Or.inl (mem1 29 rfl), Or.inl rfl⟩, ⟨Or.inl (mem1 31 rfl), Or.inl rfl⟩, ⟨Or.inl (mem1 33 rfl), Or.inl rfl⟩, ⟨Or.inl (mem1 35 rfl), Or.inr rfl⟩, ⟨Or.inl (mem1 37 rfl), Or.inr rfl⟩, ⟨Or.inl (mem1 39 rfl), Or.inl rfl⟩, ⟨Or.inl (mem1 41 rfl), Or.inl rfl⟩, ⟨Or.inl (mem1 43 rfl), Or.inl rfl⟩, trivial⟩
theorem kA : All (aOk K.1) K.2.2 := ⟨⟨Or.inl (mem1 11 rfl), Or.inl rfl, by decide⟩, ⟨Or.inl (mem1 13 rfl), Or.inl rfl, by decide⟩, ⟨Or.inl (mem1 15 rfl), Or.inl rfl, by decide⟩, ⟨Or.inl (mem1 18 rfl), Or.inr (Or.inl rfl), by decide⟩, ⟨Or.inl (mem1 20 rfl), Or.inr (Or.inl rfl), by decide⟩, ⟨Or.inl (mem1 22 rfl), Or.inl rfl, by decide⟩, trivial⟩
abbrev kN : Nat := 15
theorem kI : Jvm.Cond.instantiable K.1 kN ∈ tables_1 := mem1 1 rfl
theorem kZ : Jvm.Cond.initialized K.1 ∈ tables_1 := mem1 2 rfl
theorem kNm : (K.2.1.map (·.1) ++ K.2.2.map (·.1)).Nodup := by decide +kernel
theorem nm_ss {k k' : Nat} {nd nd' : String × String} (h : K.2.1[k]? = some nd) (h' : K.2.1[k']? = some nd') (ne : k ≠ k') : nd.1 ≠ nd'.1 := fun e => by
  have l := (List.getElem?_eq_some_iff.mp h).1
  have l' := (List.getElem?_eq_some_iff.mp h').1
  refine ne ((List.getElem?_inj (l := K.2.1.map (·.1) ++ K.2.2.map (·.1)) (i := k) (j := k') (by simp; omega) kNm).mp ?_)
  rw [List.getElem?_append_left (by simpa using l), List.getElem?_append_left (by simpa using l'), List.getElem?_map, List.getElem?_map, h, h']
  simp [e]
theorem nm_aa {k k' : Nat} {t t' : String × FieldType × Int32} (h : K.2.2[k]? = some t) (h' : K.2.2[k']? = some t') (ne : k ≠ k') : t.1 ≠ t'.1 := fun e => by
  have l := (List.getElem?_eq_some_iff.mp h).1
  have l' := (List.getElem?_eq_some_iff.mp h').1
  have q := (List.getElem?_inj (l := K.2.1.map (·.1) ++ K.2.2.map (·.1)) (i := K.2.1.length + k) (j := K.2.1.length + k') (by simp; omega) kNm).mp (by
    rw [List.getElem?_append_right (by simp), List.getElem?_append_right (by simp)]
    simp [h, h', e])
  omega
theorem nm_sa {k k' : Nat} {nd : String × String} {t : String × FieldType × Int32} (h : K.2.1[k]? = some nd) (h' : K.2.2[k']? = some t) : nd.1 ≠ t.1 := fun e => by
  have l := (List.getElem?_eq_some_iff.mp h).1
  have l' := (List.getElem?_eq_some_iff.mp h').1
  have q := (List.getElem?_inj (l := K.2.1.map (·.1) ++ K.2.2.map (·.1)) (i := k) (j := K.2.1.length + k') (by simp; omega) kNm).mp (by
    rw [List.getElem?_append_left (by simpa using l), List.getElem?_append_right (by simp)]
    simp [h, h', e])
  omega
abbrev Ctx : Type := Launch × State × Nat × Array Value
def Ok (C : Ctx) : Prop := ∀ d ∈ tables_1, d.before C.2.2.2 C.2.1 = true
def ArrAt (Z : State) (h : Heap) (b : Nat) (ty : FieldType) (len : Int32) (v : Int32 → Value) : Prop := ∃ cl : Cell, Arr Z h b cl ty ∧ cl.slots.size = len.toNatClampNeg ∧ ∀ j : Int32, ¬ j < 0 → j < len → cl.slots[j.toNatClampNeg]? = some (v j)
def ObjAt (Z : State) (h : Heap) (a : Nat) (q : Nat) (ob : Rec) : Prop :=
  Exa Z h a K.1 ∧ (∀ k nd, K.2.1[k]? = some nd → Fld Z h a K.1 nd.1 nd.2 (.int (ob.1 k))) ∧
  (∀ k t, K.2.2[k]? = some t → k < q → Fld Z h a K.1 t.1 (aD t.2.1) (.ref (a + 1 + k)) ∧ ArrAt Z h (a + 1 + k) t.2.1 t.2.2 (el t.2.1 ob k)) ∧
  (∀ k t, K.2.2[k]? = some t → q ≤ k → Fld Z h a K.1 t.1 (aD t.2.1) .null)
abbrev AH : Type := Nat × List (Nat × Nat × Rec)
def Rep (Z : State) (n0 : Nat) (h : Heap) (G : AH) : Prop :=
  h.size = G.1 ∧ Old Z n0 h ∧ (∀ x ∈ G.2, n0 ≤ x.1 ∧ x.1 + x.2.1 < G.1 ∧ ObjAt Z h x.1 x.2.1 x.2.2) ∧ G.2.Pairwise (fun x y => x.1 + x.2.1 < y.1 ∨ y.1 + y.2.1 < x.1)
section Facts
variable {Z : State} {h h' : Heap} {a b : Nat} {q k n0 top : Nat} {ob ob' : Rec} {nd : String × String} {t : String × FieldType × Int32} {a0 : Array Value} {sl : Nat} {v : Value} {H : List (Nat × Nat × Rec)} {G : AH}
theorem fld_fr {C n d : String} (e : h'[a]? = h[a]?) (F : Fld Z h a C n d v) : Fld Z h' a C n d v := by
  obtain ⟨cell, cf, k, i, f, h1, r⟩ := F; exact ⟨cell, cf, k, i, f, e.trans h1, r⟩
theorem exa_fr {C : String} (e : h'[a]? = h[a]?) (F : Exa Z h a C) : Exa Z h' a C := by
  obtain ⟨cell, k, h1, r⟩ := F; exact ⟨cell, k, e.trans h1, r⟩
theorem arrAt_fr {ty : FieldType} {len : Int32} {w : Int32 → Value} (e : h'[a]? = h[a]?) (F : ArrAt Z h a ty len w) : ArrAt Z h' a ty len w := by
  obtain ⟨cl, A, r⟩ := F; exact ⟨cl, ⟨e.trans A.1, A.2⟩, r⟩
theorem ObjAt.frame (e : ∀ b, a ≤ b → b ≤ a + q → h'[b]? = h[b]?) (F : ObjAt Z h a q ob) : ObjAt Z h' a q ob := by
  have e0 := e a (Nat.le_refl _) (Nat.le_add_right _ _)
  refine ⟨exa_fr e0 F.1, fun k nd hk => fld_fr e0 (F.2.1 k nd hk), fun k t hk hq => ⟨fld_fr e0 (F.2.2.1 k t hk hq).1, arrAt_fr (e _ (by omega) (by omega)) (F.2.2.1 k t hk hq).2⟩, fun k t hk hq => fld_fr e0 (F.2.2.2 k t hk hq)⟩
theorem ObjAt.ext (E : Ext h h') (F : ObjAt Z h a q ob) : ObjAt Z h' a q ob := by
  refine ⟨F.1.ext E, fun k nd hk => (F.2.1 k nd hk).ext E, fun k t hk hq => ⟨(F.2.2.1 k t hk hq).1.ext E, ?_⟩, fun k t hk hq => (F.2.2.2 k t hk hq).ext E⟩
  obtain ⟨cl, A, r⟩ := (F.2.2.1 k t hk hq).2; exact ⟨cl, A.ext E, r⟩
theorem wr_ne (W : Wr h h' a sl v) (ne : b ≠ a) : h'[b]? = h[b]? := by
  obtain ⟨cell, -, -, -, rfl⟩ := W; exact Array.getElem?_setIfInBounds_ne (Ne.symm ne)
theorem laidS (hw : ∀ d ∈ tables_1, d.before a0 Z = true) (hk : K.2.1[k]? = some nd) : Laid Z a0 K.1 K.1 nd.1 nd.2 := ((All.mem kS (List.mem_of_getElem? hk)).1).imp (hw _) (hw _)
theorem laidA (hw : ∀ d ∈ tables_1, d.before a0 Z = true) (hk : K.2.2[k]? = some t) : Laid Z a0 K.1 K.1 t.1 (aD t.2.1) := ((All.mem kA (List.mem_of_getElem? hk)).1).imp (hw _) (hw _)
theorem pfS (hk : K.2.1[k]? = some nd) : ∃ ty, parseFieldDescriptor nd.2 = some ty := by
  rcases (All.mem kS (List.mem_of_getElem? hk)).2 with e | e <;> rw [e]
  · exact ⟨.int, by decide⟩
  · exact ⟨.boolean, by decide⟩
theorem pfA (hk : K.2.2[k]? = some t) : parseFieldDescriptor (aD t.2.1) = some (.array t.2.1) := by
  rcases (All.mem kA (List.mem_of_getElem? hk)).2.1 with e | e | e <;> rw [e] <;> decide
theorem ObjAt.putI {x : Int32} (hw : ∀ d ∈ tables_1, d.before a0 Z = true) (F : ObjAt Z h a q ob) (hk : K.2.1[k]? = some nd) (W : Wr h h' a (Jvm.RoadKit.slotOf Z K.1 nd.1 nd.2) (.int x)) : ObjAt Z h' a q (sI ob k x) := by
  obtain ⟨ty, hty⟩ := pfS hk
  refine ⟨F.1.wr W, fun k' nd' hk' => ?_, fun k' t hk' hq => ⟨(F.2.2.1 k' t hk' hq).1.other W (Or.inr (Jvm.RoadKit.slot_ne (laidA hw hk') (laidS hw hk) (Ne.symm (nm_sa hk hk')) (pfA hk') hty)), ?_⟩, fun k' t hk' hq => (F.2.2.2 k' t hk' hq).other W (Or.inr (Jvm.RoadKit.slot_ne (laidA hw hk') (laidS hw hk) (Ne.symm (nm_sa hk hk')) (pfA hk') hty))⟩
  · by_cases e : k' = k
    · subst e; cases hk.symm.trans hk'
      have := (F.2.1 k' nd hk).same W
      simpa [sI] using this
    · obtain ⟨ty', hty'⟩ := pfS hk'
      have := (F.2.1 k' nd' hk').other W (Or.inr (Jvm.RoadKit.slot_ne (laidS hw hk') (laidS hw hk) (nm_ss hk' hk e) hty' hty))
      simpa [sI, e] using this
  · have := arrAt_fr (wr_ne W (by omega)) (F.2.2.1 k' t hk' hq).2
    have e : el t.2.1 (sI ob k x) k' = el t.2.1 ob k' := by funext j; unfold el; split <;> rfl
    rw [e]; exact this
theorem ObjAt.putA (F : ObjAt Z h a q ob) (hk : K.2.2[k]? = some t) (hq : k < q) {x : Value} {j : Int32} (hj : ¬ j < 0 ∧ j < t.2.2) (W : Wr h h' (a + 1 + k) j.toNatClampNeg x)
    (e1 : el t.2.1 ob' k = fun i => if i = j then x else el t.2.1 ob k i) (e2 : ∀ k' t', k' ≠ k → el t' ob' k' = el t' ob k') (e3 : ob'.1 = ob.1) : ObjAt Z h' a q ob' := by
  have u : h'[a]? = h[a]? := wr_ne W (by omega)
  refine ⟨exa_fr u F.1, fun k' nd hk' => by rw [e3]; exact fld_fr u (F.2.1 k' nd hk'), fun k' t' hk' hq' => ⟨fld_fr u (F.2.2.1 k' t' hk' hq').1, ?_⟩, fun k' t' hk' hq' => fld_fr u (F.2.2.2 k' t' hk' hq')⟩
  by_cases e : k' = k
  · subst e; cases hk.symm.trans hk'
    obtain ⟨cl, A, S, V⟩ := (F.2.2.1 k' t hk hq).2
    have inb : ¬ (j < 0 ∨ cl.slots.size ≤ j.toNatClampNeg) := inb_of S hj
    refine ⟨_, A.same W, by rw [sz_set]; exact S, fun i h0 h1 => ?_⟩
    rw [e1]
    by_cases ei : i = j
    · simp only [ei, if_true]; exact get_hit inb rfl
    · simp only [ei, if_false]; rw [get_miss hj.1 h0 ei]; exact V i h0 h1
  · rw [e2 k' _ e]; exact arrAt_fr (wr_ne W (by omega)) (F.2.2.1 k' t' hk' hq').2
theorem el_sA {ty : FieldType} (ht : ty ≠ .long) (j x : Int32) : el ty (sA ob k j x) k = fun i => if i = j then .int x else el ty ob k i := by
  funext i; cases ty <;> first | exact absurd rfl ht | (simp only [el, sA, true_and]; split <;> rfl)
theorem el_sJ (j : Int32) (x : Int64) : el .long (sJ ob k j x) k = fun i => if i = j then .long x else el .long ob k i := by
  funext i; simp only [el, sJ, true_and]; split <;> rfl
theorem el_sA' (j x : Int32) (k' : Nat) (t' : FieldType) (ne : k' ≠ k) : el t' (sA ob k j x) k' = el t' ob k' := by
  funext i; cases t' <;> simp [el, sA, ne]
theorem el_sJ' (j : Int32) (x : Int64) (k' : Nat) (t' : FieldType) (ne : k' ≠ k) : el t' (sJ ob k j x) k' = el t' ob k' := by
  funext i; cases t' <;> simp [el, sJ, ne]
theorem Rep.upd (R : Rep Z n0 h (top, (a, q, ob) :: H)) (hs : h'.size = h.size) (hO : Old Z n0 h') (e : ∀ b, (b < a ∨ a + q < b) → h'[b]? = h[b]?) (F : ObjAt Z h' a q ob') : Rep Z n0 h' (top, (a, q, ob') :: H) := by
  obtain ⟨r1, r2, r3, r4⟩ := R
  refine ⟨hs.trans r1, hO, fun x hx => ?_, ?_⟩
  · rcases List.mem_cons.mp hx with rfl | hx
    · exact ⟨(r3 _ (List.mem_cons_self ..)).1, (r3 _ (List.mem_cons_self ..)).2.1, F⟩
    · obtain ⟨p1, p2, p3⟩ := r3 x (List.mem_cons_of_mem _ hx)
      refine ⟨p1, p2, p3.frame fun b h1 h2 => e b ?_⟩
      have := (List.pairwise_cons.mp r4).1 x hx
      simp only at this
      omega
  · have := List.pairwise_cons.mp r4
    exact List.pairwise_cons.mpr ⟨fun y hy => this.1 y hy, this.2⟩
theorem Rep.objs (R : Rep Z n0 h (top, (a, q, ob) :: H)) : n0 ≤ a ∧ a + q < top ∧ ObjAt Z h a q ob := R.2.2.1 _ (List.mem_cons_self ..)
theorem Rep.putI {x : Int32} (hw : ∀ d ∈ tables_1, d.before a0 Z = true) (R : Rep Z n0 h (top, (a, q, ob) :: H)) (hk : K.2.1[k]? = some nd) (W : Wr h h' a (Jvm.RoadKit.slotOf Z K.1 nd.1 nd.2) (.int x)) : Rep Z n0 h' (top, (a, q, sI ob k x) :: H) :=
  R.upd W.size (R.2.1.wr W R.objs.1) (fun b hb => wr_ne W (by omega)) (R.objs.2.2.putI hw hk W)
theorem Rep.putA {x j : Int32} (R : Rep Z n0 h (top, (a, q, ob) :: H)) (hk : K.2.2[k]? = some t) (hq : k < q) (ht : t.2.1 ≠ .long) (hj : ¬ j < 0 ∧ j < t.2.2) (W : Wr h h' (a + 1 + k) j.toNatClampNeg (.int x)) : Rep Z n0 h' (top, (a, q, sA ob k j x) :: H) :=
  R.upd W.size (R.2.1.wr W (by have := R.objs.1; omega)) (fun b hb => wr_ne W (by omega)) (R.objs.2.2.putA hk hq hj W (el_sA ht j x) (fun k' t' ne => el_sA' j x k' t' ne) rfl)
theorem Rep.putJ {j : Int32} {x : Int64} (R : Rep Z n0 h (top, (a, q, ob) :: H)) (hk : K.2.2[k]? = some t) (hq : k < q) (ht : t.2.1 = .long) (hj : ¬ j < 0 ∧ j < t.2.2) (W : Wr h h' (a + 1 + k) j.toNatClampNeg (.long x)) : Rep Z n0 h' (top, (a, q, sJ ob k j x) :: H) :=
  R.upd W.size (R.2.1.wr W (by have := R.objs.1; omega)) (fun b hb => wr_ne W (by omega)) (R.objs.2.2.putA hk hq hj W (by rw [ht]; exact el_sJ j x) (fun k' t' ne => el_sJ' j x k' t' ne) rfl)
theorem Rep.swap {x y : Nat × Nat × Rec} (R : Rep Z n0 h (top, x :: y :: H)) : Rep Z n0 h (top, y :: x :: H) := by
  obtain ⟨r1, r2, r3, r4⟩ := R
  refine ⟨r1, r2, fun z hz => r3 z ?_, ?_⟩
  · simp only [List.mem_cons] at hz ⊢
    rcases hz with e | e | e
    · exact Or.inr (Or.inl e)
    · exact Or.inl e
    · exact Or.inr (Or.inr e)
  · simp only [List.pairwise_cons, List.mem_cons] at r4 ⊢
    obtain ⟨p1, p2, p3⟩ := r4
    refine ⟨fun z hz => ?_, fun z hz => p1 z (Or.inr hz), p3⟩
    rcases hz with rfl | hz
    · exact (p1 _ (Or.inl rfl)).symm
    · exact p2 z hz
theorem ObjAt.addA (hw : ∀ d ∈ tables_1, d.before a0 Z = true) (F : ObjAt Z h a k ob) (hk : K.2.2[k]? = some t) (A : ArrAt Z h (a + 1 + k) t.2.1 t.2.2 (el t.2.1 ob k)) (W : Wr h h' a (Jvm.RoadKit.slotOf Z K.1 t.1 (aD t.2.1)) (.ref (a + 1 + k))) : ObjAt Z h' a (k + 1) ob := by
  refine ⟨F.1.wr W, fun k' nd hk' => ?_, fun k' t' hk' hq => ?_, fun k' t' hk' hq => ?_⟩
  · obtain ⟨ty', hty'⟩ := pfS hk'
    exact (F.2.1 k' nd hk').other W (Or.inr (Jvm.RoadKit.slot_ne (laidS hw hk') (laidA hw hk) (nm_sa hk' hk) hty' (pfA hk)))
  · by_cases e : k' = k
    · subst e
      have et : t = t' := Option.some.inj (hk.symm.trans hk')
      subst et
      exact ⟨(F.2.2.2 k' t hk (Nat.le_refl _)).same W, arrAt_fr (wr_ne W (by omega)) A⟩
    · obtain ⟨f1, f2⟩ := F.2.2.1 k' t' hk' (by omega)
      exact ⟨f1.other W (Or.inr (Jvm.RoadKit.slot_ne (laidA hw hk') (laidA hw hk) (nm_aa hk' hk e) (pfA hk') (pfA hk))), arrAt_fr (wr_ne W (by omega)) f2⟩
  · exact (F.2.2.2 k' t' hk' (by omega)).other W (Or.inr (Jvm.RoadKit.slot_ne (laidA hw hk') (laidA hw hk) (nm_aa hk' hk (by omega)) (pfA hk') (pfA hk)))
theorem Rep.addA {h1 h2 : Heap} (hw : ∀ d ∈ tables_1, d.before a0 Z = true) (R : Rep Z n0 h (top, (a, k, ob) :: H)) (E : Ext h h1) (s1 : h1.size = top + 1) (htop : top = a + 1 + k) (hk : K.2.2[k]? = some t) (A : ArrAt Z h1 top t.2.1 t.2.2 (el t.2.1 ob k)) (W : Wr h1 h2 a (Jvm.RoadKit.slotOf Z K.1 t.1 (aD t.2.1)) (.ref top)) : Rep Z n0 h2 (top + 1, (a, k + 1, ob) :: H) := by
  obtain ⟨q1, q2, q3⟩ := R.objs
  have hp := List.pairwise_cons.mp R.2.2.2
  have hO : ObjAt Z h2 a (k + 1) ob := by
    subst htop
    exact (q3.ext E).addA hw hk A W
  refine ⟨W.size.trans s1, (R.2.1.ext E).wr W q1, List.forall_mem_cons.mpr ⟨⟨q1, ?_, hO⟩, fun x hx => ?_⟩, List.pairwise_cons.mpr ⟨fun y hy => ?_, hp.2⟩⟩
  · show a + (k + 1) < top + 1; omega
  · obtain ⟨p1, p2, p3⟩ := R.2.2.1 x (List.mem_cons_of_mem _ hx)
    have u1 : a + k < x.1 ∨ x.1 + x.2.1 < a := hp.1 x hx
    have u2 : x.1 + x.2.1 < top := p2
    exact ⟨p1, Nat.lt_succ_of_lt u2, (p3.ext E).frame fun b h1 h2 => wr_ne W (by omega)⟩
  · have u1 : a + k < y.1 ∨ y.1 + y.2.1 < a := hp.1 y hy
    have u2 : y.1 + y.2.1 < top := (R.2.2.1 y (List.mem_cons_of_mem _ hy)).2.1
    show a + (k + 1) < y.1 ∨ y.1 + y.2.1 < a
    omega
theorem arr_new {cA : ClassId} {ty : FieldType} {len : Int32} (A : Arr Z h b (newA cA ty len) ty) (hts : ty = .int ∨ ty = .boolean ∨ ty = .long) (hz : (∀ i, ob.2.1 k i = 0) ∧ (∀ i, ob.2.2 k i = 0)) : ArrAt Z h b ty len (el ty ob k) := by
  refine ⟨_, A, sz_new _ _ _, fun i h0 h1 => ?_⟩
  have hi : ¬ (i < 0 ∨ len.toNatClampNeg ≤ i.toNatClampNeg) := by
    have e0 : (0 : Int32).toInt = 0 := rfl
    simp only [Int32.lt_iff_toInt_lt, Int32.toNatClampNeg] at *
    omega
  rw [get_new hi]
  rcases hts with rfl | rfl | rfl
  · show some (Value.int 0) = some (Value.int (ob.2.1 k i)); rw [hz.1]
  · show some (Value.int 0) = some (Value.int (ob.2.1 k i)); rw [hz.1]
  · show some (Value.long 0) = some (Value.long (ob.2.2 k i)); rw [hz.2]
theorem Rep.start (s : State) : Rep s s.heap.size s.heap (s.heap.size, []) := ⟨rfl, Old.start s, fun x hx => (by cases hx), List.Pairwise.nil⟩
end Facts
/- bodies, decode facts, patterns of local variables -/
abbrev Bdy : Type := MethodName × ByteArray × Nat × Option FieldType × Room
def DAt (M : Bdy) (pc : Nat) (i : Instr) (n q : Nat) : Prop := decode M.2.1 pc = .ok (i, n) ∧ q = pc + n
abbrev Pat : Type := List (Option Slot)
abbrev vi (x : Int32) : Option Slot := some (.val (.int x))
abbrev vl (x : Int64) : Option Slot := some (.val (.long x))
abbrev vr (a : Nat) : Option Slot := some (.val (.ref a))
abbrev v2 : Option Slot := some .second
abbrev vn : Option Slot := none
def pget : Pat → Nat → Option Slot
  | [], _ => none
  | x :: _, 0 => x
  | _ :: l, n + 1 => pget l n
theorem pget_eq : ∀ (P : Pat) (i : Nat), pget P i = (P[i]?).join
  | [], _ => by simp [pget]
  | x :: l, 0 => by simp [pget]
  | x :: l, n + 1 => by simp [pget, pget_eq l n]
def pput : Pat → Nat → Option Slot → Pat
  | [], _, _ => []
  | _ :: l, 0, y => y :: l
  | x :: l, n + 1, y => x :: pput l n y
theorem pget_pput : ∀ (P : Pat) (i j : Nat) (y : Option Slot) (s : Slot), pget (pput P i y) j = some s → (j = i ∧ y = some s) ∨ (j ≠ i ∧ pget P j = some s)
  | [], _, _, _, _, h => by simp [pput, pget] at h
  | x :: l, 0, 0, y, s, h => Or.inl ⟨rfl, h⟩
  | x :: l, 0, j + 1, y, s, h => Or.inr ⟨by omega, h⟩
  | x :: l, i + 1, 0, y, s, h => Or.inr ⟨by omega, h⟩
  | x :: l, i + 1, j + 1, y, s, h => by
    rcases pget_pput l i j y s h with ⟨e, r⟩ | ⟨e, r⟩
    · exact Or.inl ⟨by omega, r⟩
    · exact Or.inr ⟨by omega, r⟩
/-- a two-word value whose first word is at i is forgotten -/
def pk1 (P : Pat) (i : Nat) : Pat := match pget P i with
  | some (.val (.long _)) => pput P i none
  | some (.val (.double _)) => pput P i none
  | _ => P
def pk2 (P : Pat) (i : Nat) : Pat := match pget P i with
  | some .second => pput P i none
  | _ => P
def pkp (P : Pat) : Nat → Pat
  | 0 => P
  | i + 1 => pk1 P i
def ps1 (P : Pat) (i : Nat) (v : Value) : Pat := pput (pk2 (pkp P i) (i + 1)) i (some (.val v))
def ps2 (P : Pat) (i : Nat) (v : Value) : Pat := pput (pput (pk2 (pkp P i) (i + 2)) i (some (.val v))) (i + 1) (some .second)
def WFl (L : Array Slot) : Prop := (∀ i : Nat, L[i]? = some .second → ∃ (j : Nat) (v : Value), i = j + 1 ∧ L[j]? = some (.val v) ∧ v.category = 2) ∧ (∀ (i : Nat) (v : Value), L[i]? = some (.val v) → v.category = 2 → L[i + 1]? = some .second)
def Fits (P : Pat) (L : Array Slot) : Prop := (∀ i s, pget P i = some s → L[i]? = some s) ∧ WFl L
theorem pk1_sub {P : Pat} {i j : Nat} {s : Slot} (h : pget (pk1 P i) j = some s) : pget P j = some s ∧ (j = i → ∀ w : Value, s = .val w → w.category = 1) := by
  unfold pk1 at h
  split at h
  · rcases pget_pput _ _ _ _ _ h with ⟨-, e⟩ | ⟨e, r⟩
    · cases e
    · exact ⟨r, fun q => absurd q e⟩
  · rcases pget_pput _ _ _ _ _ h with ⟨-, e⟩ | ⟨e, r⟩
    · cases e
    · exact ⟨r, fun q => absurd q e⟩
  · rename_i h1 h2
    refine ⟨h, fun q w e => ?_⟩
    subst q e
    cases w <;> first | rfl | exact absurd h (h1 _) | exact absurd h (h2 _)
theorem pk2_sub {P : Pat} {i j : Nat} {s : Slot} (h : pget (pk2 P i) j = some s) : pget P j = some s ∧ (j = i → s ≠ .second) := by
  unfold pk2 at h
  split at h
  · rcases pget_pput _ _ _ _ _ h with ⟨-, e⟩ | ⟨e, r⟩
    · cases e
    · exact ⟨r, fun q => absurd q e⟩
  · rename_i h1
    refine ⟨h, fun q e => ?_⟩
    subst q e; exact h1 h
theorem pkp_sub {P : Pat} {i j : Nat} {s : Slot} (h : pget (pkp P i) j = some s) : pget P j = some s ∧ (j + 1 = i → ∀ w : Value, s = .val w → w.category = 1) := by
  cases i with
  | zero => exact ⟨h, fun q => by omega⟩
  | succ i => obtain ⟨h1, h2⟩ := pk1_sub (show pget (pk1 P i) j = some s from h); exact ⟨h1, fun q => h2 (by omega)⟩
theorem setAt_eq {L : Array Slot} {i : Nat} {x : Slot} (hi : i < L.size) : Jvm.setAt L i x = some (L.setIfInBounds i x) := by simp [Jvm.setAt, hi]
theorem sl_second {L : Array Slot} {i : Nat} {v : Value} (ho : L[i]? = some .second) : storeLocals L i v = (Jvm.setAt L (i - 1) .unset).bind fun l => storeSelf l i v := by
  unfold storeLocals; rw [ho]; rfl
theorem sl_unset {L : Array Slot} {i : Nat} {v : Value} (ho : L[i]? = some .unset) : storeLocals L i v = storeSelf L i v := by
  unfold storeLocals; rw [ho]; rfl
theorem sl_val {L : Array Slot} {i : Nat} {v o : Value} (ho : L[i]? = some (.val o)) : storeLocals L i v = if o.category = 2 then (Jvm.setAt L (i + 1) .unset).bind fun l => storeSelf l i v else storeSelf L i v := by
  unfold storeLocals; rw [ho]; rfl
theorem ss_one {L : Array Slot} {i : Nat} {v : Value} (hi : i < L.size) (hv : ¬ v.category = 2) : storeSelf L i v = some (L.setIfInBounds i (.val v)) := by
  unfold storeSelf; rw [setAt_eq hi]; simp [hv]
theorem ss_two {L : Array Slot} {i : Nat} {v : Value} {o : Slot} (hi : i < L.size) (hv : v.category = 2) (ho : L[i + 1]? = some o) : storeSelf L i v = (match o with
    | .val old => if old.category = 2 then (Jvm.setAt (L.setIfInBounds i (.val v)) (i + 2) .unset).bind fun l => Jvm.setAt l (i + 1) .second else Jvm.setAt (L.setIfInBounds i (.val v)) (i + 1) .second
    | _ => Jvm.setAt (L.setIfInBounds i (.val v)) (i + 1) .second) := by
  have e : (L.setIfInBounds i (.val v))[i + 1]? = some o := by rw [Array.getElem?_setIfInBounds_ne (by omega)]; exact ho
  unfold storeSelf; rw [setAt_eq hi]
  show (if v.category = 2 then _ else _) = _
  rw [if_pos hv, e]
  cases o <;> rfl
theorem cat12 (v : Value) : v.category = 1 ∨ v.category = 2 := by cases v <;> first | exact Or.inl rfl | exact Or.inr rfl
/-- a one-word store: what stands elsewhere stays, but for the halves of a two-word value that it breaks -/
theorem store_one {L : Array Slot} {i : Nat} {v : Value} (hW : WFl L) (hi : i < L.size) (hv : v.category = 1) :
    ∃ L', storeLocals L i v = some L' ∧ L'.size = L.size ∧ WFl L' ∧ L'[i]? = some (.val v) ∧ ∀ j, j ≠ i → L'[j]? = L[j]? ∨ (j + 1 = i ∧ L[i]? = some .second) ∨ (j = i + 1 ∧ L[j]? = some .second) := by
  have hv2 : ¬ v.category = 2 := by omega
  cases ho : L[i]? with
  | none => rw [Array.getElem?_eq_none_iff] at ho; omega
  | some o =>
    cases o with
    | unset =>
      refine ⟨L.setIfInBounds i (.val v), ?_, by simp, ?_, by simp [hi], fun j hj => Or.inl (Array.getElem?_setIfInBounds_ne (Ne.symm hj))⟩
      · rw [sl_unset ho, ss_one hi hv2]
      · refine ⟨fun j hj => ?_, fun j w hj hw => ?_⟩
        · by_cases e : j = i
          · subst e; simp [hi] at hj
          · rw [Array.getElem?_setIfInBounds_ne (Ne.symm e)] at hj
            obtain ⟨j', w, e1, e2, e3⟩ := hW.1 j hj
            refine ⟨j', w, e1, ?_, e3⟩
            rw [Array.getElem?_setIfInBounds_ne]; exact e2
            intro q; subst q; rw [ho] at e2; cases e2
        · by_cases e : j = i
          · subst e; simp [hi] at hj; subst hj; omega
          · rw [Array.getElem?_setIfInBounds_ne (Ne.symm e)] at hj
            have := hW.2 j w hj hw
            rw [Array.getElem?_setIfInBounds_ne]; exact this
            intro q; subst q; rw [ho] at this; cases this
    | second =>
      obtain ⟨j0, w0, rfl, f2, f3⟩ := hW.1 i ho
      have hj0 : j0 < L.size := by omega
      refine ⟨(L.setIfInBounds j0 .unset).setIfInBounds (j0 + 1) (.val v), ?_, by simp, ?_, by simp [hi], fun j hj => ?_⟩
      · rw [sl_second ho, show j0 + 1 - 1 = j0 from rfl, setAt_eq hj0]; exact ss_one (by simpa using hi) hv2
      · refine ⟨fun j hj => ?_, fun j w hj hw => ?_⟩
        · by_cases e : j = j0 + 1
          · subst e; simp [hi] at hj
          · rw [Array.getElem?_setIfInBounds_ne (Ne.symm e)] at hj
            by_cases e' : j = j0
            · subst e'; simp [hj0] at hj
            · rw [Array.getElem?_setIfInBounds_ne (Ne.symm e')] at hj
              obtain ⟨j', w, e1, e2, e3⟩ := hW.1 j hj
              refine ⟨j', w, e1, ?_, e3⟩
              rw [Array.getElem?_setIfInBounds_ne, Array.getElem?_setIfInBounds_ne]
              · exact e2
              · intro q; subst q; omega
              · intro q; subst q; rw [ho] at e2; cases e2
        · by_cases e : j = j0 + 1
          · subst e; simp [hi] at hj; subst hj; omega
          · rw [Array.getElem?_setIfInBounds_ne (Ne.symm e)] at hj
            by_cases e' : j = j0
            · subst e'; simp [hj0] at hj
            · rw [Array.getElem?_setIfInBounds_ne (Ne.symm e')] at hj
              have := hW.2 j w hj hw
              rw [Array.getElem?_setIfInBounds_ne, Array.getElem?_setIfInBounds_ne]
              · exact this
              · intro q; subst q; rw [f2] at this; cases this
              · omega
      · by_cases e' : j = j0
        · exact Or.inr (Or.inl ⟨by omega, rfl⟩)
        · left; rw [Array.getElem?_setIfInBounds_ne (Ne.symm hj), Array.getElem?_setIfInBounds_ne (Ne.symm e')]
    | val old =>
      by_cases hc : old.category = 2
      · have f2 := hW.2 i old ho hc
        have hi1 : i + 1 < L.size := (Array.getElem?_eq_some_iff.mp f2).1
        refine ⟨(L.setIfInBounds (i + 1) .unset).setIfInBounds i (.val v), ?_, by simp, ?_, by simp [hi], fun j hj => ?_⟩
        · rw [sl_val ho, if_pos hc, setAt_eq hi1]; exact ss_one (by simpa using hi) hv2
        · refine ⟨fun j hj => ?_, fun j w hj hw => ?_⟩
          · by_cases e : j = i
            · subst e; simp [hi] at hj
            · rw [Array.getElem?_setIfInBounds_ne (Ne.symm e)] at hj
              by_cases e' : j = i + 1
              · subst e'; simp [hi1] at hj
              · rw [Array.getElem?_setIfInBounds_ne (Ne.symm e')] at hj
                obtain ⟨j', w, e1, e2, e3⟩ := hW.1 j hj
                refine ⟨j', w, e1, ?_, e3⟩
                rw [Array.getElem?_setIfInBounds_ne, Array.getElem?_setIfInBounds_ne]
                · exact e2
                · intro q; subst q; rw [f2] at e2; cases e2
                · omega
          · by_cases e : j = i
            · subst e; simp [hi] at hj; subst hj; omega
            · rw [Array.getElem?_setIfInBounds_ne (Ne.symm e)] at hj
              by_cases e' : j = i + 1
              · subst e'; simp [hi1] at hj
              · rw [Array.getElem?_setIfInBounds_ne (Ne.symm e')] at hj
                have := hW.2 j w hj hw
                rw [Array.getElem?_setIfInBounds_ne, Array.getElem?_setIfInBounds_ne]
                · exact this
                · omega
                · intro q; subst q; rw [ho] at this; cases this
        · by_cases e' : j = i + 1
          · subst e'; exact Or.inr (Or.inr ⟨rfl, f2⟩)
          · left; rw [Array.getElem?_setIfInBounds_ne (Ne.symm hj), Array.getElem?_setIfInBounds_ne (Ne.symm e')]
      · refine ⟨L.setIfInBounds i (.val v), ?_, by simp, ?_, by simp [hi], fun j hj => Or.inl (Array.getElem?_setIfInBounds_ne (Ne.symm hj))⟩
        · rw [sl_val ho, if_neg hc, ss_one hi hv2]
        · refine ⟨fun j hj => ?_, fun j w hj hw => ?_⟩
          · by_cases e : j = i
            · subst e; simp [hi] at hj
            · rw [Array.getElem?_setIfInBounds_ne (Ne.symm e)] at hj
              obtain ⟨j', w, e1, e2, e3⟩ := hW.1 j hj
              refine ⟨j', w, e1, ?_, e3⟩
              rw [Array.getElem?_setIfInBounds_ne]; exact e2
              intro q; subst q; rw [ho] at e2; cases e2; omega
          · by_cases e : j = i
            · subst e; simp [hi] at hj; subst hj; omega
            · rw [Array.getElem?_setIfInBounds_ne (Ne.symm e)] at hj
              have := hW.2 j w hj hw
              rw [Array.getElem?_setIfInBounds_ne]; exact this
              intro q; subst q; rw [ho] at this; cases this
theorem Fits.store1 {P : Pat} {L : Array Slot} {i : Nat} {v : Value} (h : Fits P L) (hi : i < L.size) (hv : v.category = 1) :
    ∃ L', storeLocals L i v = some L' ∧ L'.size = L.size ∧ Fits (ps1 P i v) L' := by
  obtain ⟨L', e1, e2, e3, e4, e5⟩ := store_one h.2 hi hv
  refine ⟨L', e1, e2, fun j s hj => ?_, e3⟩
  rcases pget_pput _ _ _ _ _ hj with ⟨rfl, q⟩ | ⟨ne, q⟩
  · rw [e4]; exact q
  · obtain ⟨q1, q2⟩ := pk2_sub q
    obtain ⟨q3, q4⟩ := pkp_sub q1
    have hL := h.1 j s q3
    rcases e5 j ne with r | ⟨r1, r2⟩ | ⟨r1, r2⟩
    · rw [r]; exact hL
    · obtain ⟨j', w, z1, z2, z3⟩ := h.2.1 i r2
      have : j' = j := by omega
      subst this
      rw [hL] at z2; cases z2
      have := q4 r1 w rfl; omega
    · rw [hL] at r2; cases r2
      exact absurd rfl (q2 r1)
theorem st_ph1 {L : Array Slot} {i : Nat} {v : Value} (hW : WFl L) (hi : i + 1 < L.size) :
    ∃ A : Array Slot, storeLocals L i v = storeSelf A i v ∧ A.size = L.size ∧ (∀ j, j ≠ i → j ≠ i + 1 → A[j]? = L[j]? ∨ (j + 1 = i ∧ L[i]? = some .second ∧ A[j]? = some .unset)) ∧ (A[i + 1]? = L[i + 1]? ∨ (A[i + 1]? = some .unset ∧ L[i + 1]? = some .second)) ∧ (L[i]? = some .second → ∀ j, j + 1 = i → A[j]? = some .unset) := by
  have hi0 : i < L.size := by omega
  cases ho : L[i]? with
  | none => rw [Array.getElem?_eq_none_iff] at ho; omega
  | some o =>
    cases o with
    | unset => exact ⟨L, sl_unset ho, rfl, fun j _ _ => Or.inl rfl, Or.inl rfl, fun q => by cases q⟩
    | second =>
      obtain ⟨j0, w0, rfl, f2, f3⟩ := hW.1 i ho
      have hj0 : j0 < L.size := by omega
      refine ⟨L.setIfInBounds j0 .unset, by rw [sl_second ho, show j0 + 1 - 1 = j0 from rfl, setAt_eq hj0]; rfl, by simp, fun j h1 h2 => ?_, Or.inl (Array.getElem?_setIfInBounds_ne (by omega)), fun _ j hj => ?_⟩
      · by_cases e : j = j0
        · subst e; exact Or.inr ⟨rfl, rfl, by simp [hj0]⟩
        · exact Or.inl (Array.getElem?_setIfInBounds_ne (Ne.symm e))
      · have : j = j0 := by omega
        subst this; simp [hj0]
    | val old =>
      by_cases hc : old.category = 2
      · refine ⟨L.setIfInBounds (i + 1) .unset, by rw [sl_val ho, if_pos hc, setAt_eq hi]; rfl, by simp, fun j h1 h2 => Or.inl (Array.getElem?_setIfInBounds_ne (Ne.symm h2)), Or.inr ⟨by simp [hi], hW.2 i old ho hc⟩, fun q => by cases q⟩
      · exact ⟨L, by rw [sl_val ho, if_neg hc], rfl, fun j _ _ => Or.inl rfl, Or.inl rfl, fun q => by cases q⟩
theorem st_ph2 {A : Array Slot} {i : Nat} {v : Value} (hi : i + 1 < A.size) (hv : v.category = 2) (hn : ∀ w : Value, A[i + 1]? = some (.val w) → w.category = 2 → i + 2 < A.size) :
    ∃ L', storeSelf A i v = some L' ∧ L'.size = A.size ∧ L'[i]? = some (.val v) ∧ L'[i + 1]? = some .second ∧ (∀ j, j ≠ i → j ≠ i + 1 → L'[j]? = A[j]? ∨ (j = i + 2 ∧ L'[j]? = some .unset ∧ ∃ w : Value, A[i + 1]? = some (.val w) ∧ w.category = 2)) ∧ ((∃ w : Value, A[i + 1]? = some (.val w) ∧ w.category = 2) → L'[i + 2]? = some .unset) := by
  have hi0 : i < A.size := by omega
  have eB : (A.setIfInBounds i (.val v))[i + 1]? = A[i + 1]? := Array.getElem?_setIfInBounds_ne (by omega)
  have plain : (∀ w : Value, A[i + 1]? = some (.val w) → w.category ≠ 2) → storeSelf A i v = some ((A.setIfInBounds i (.val v)).setIfInBounds (i + 1) .second) := fun hq => by
    cases ho : A[i + 1]? with
    | none => rw [Array.getElem?_eq_none_iff] at ho; omega
    | some o => cases o with
      | unset => rw [ss_two hi0 hv ho]; exact setAt_eq (by simpa using hi)
      | second => rw [ss_two hi0 hv ho]; exact setAt_eq (by simpa using hi)
      | val w => have := hq w ho; rw [ss_two hi0 hv ho]; simp only [if_neg this]; exact setAt_eq (by simpa using hi)
  by_cases hw : ∃ w : Value, A[i + 1]? = some (.val w) ∧ w.category = 2
  · obtain ⟨w, h1, h2⟩ := hw
    have h3 := hn w h1 h2
    refine ⟨((A.setIfInBounds i (.val v)).setIfInBounds (i + 2) .unset).setIfInBounds (i + 1) .second, by rw [ss_two hi0 hv h1]; simp only [if_pos h2]; rw [setAt_eq (by simpa using h3)]; exact setAt_eq (by simpa using hi), by simp, ?_, by simp [hi], fun j a b => ?_, fun _ => ?_⟩
    · rw [Array.getElem?_setIfInBounds_ne (by omega), Array.getElem?_setIfInBounds_ne (by omega)]; simp [hi0]
    · rw [Array.getElem?_setIfInBounds_ne (by omega)]
      by_cases e : j = i + 2
      · subst e; exact Or.inr ⟨rfl, by simp [h3], w, h1, h2⟩
      · left; rw [Array.getElem?_setIfInBounds_ne (by omega), Array.getElem?_setIfInBounds_ne (by omega)]
    · rw [Array.getElem?_setIfInBounds_ne (by omega)]; simp [h3]
  · refine ⟨_, plain fun w h1 h2 => hw ⟨w, h1, h2⟩, by simp, ?_, by simp [hi], fun j a b => Or.inl ?_, fun q => absurd q hw⟩
    · rw [Array.getElem?_setIfInBounds_ne (by omega)]; simp [hi0]
    · rw [Array.getElem?_setIfInBounds_ne (by omega), Array.getElem?_setIfInBounds_ne (by omega)]
theorem store_two {L : Array Slot} {i : Nat} {v : Value} (hW : WFl L) (hi : i + 1 < L.size) (hv : v.category = 2) :
    ∃ L', storeLocals L i v = some L' ∧ L'.size = L.size ∧ WFl L' ∧ L'[i]? = some (.val v) ∧ L'[i + 1]? = some .second ∧ ∀ j, j ≠ i → j ≠ i + 1 → L'[j]? = L[j]? ∨ (j + 1 = i ∧ L[i]? = some .second) ∨ (j = i + 2 ∧ L[j]? = some .second) := by
  obtain ⟨A, a1, a2, a3, a4, a5⟩ := st_ph1 (v := v) hW hi
  have a6 : ∀ w : Value, A[i + 1]? = some (.val w) → w.category = 2 → L[i + 2]? = some .second := fun w h1 h2 => by
    rcases a4 with e | ⟨e, -⟩
    · rw [e] at h1; exact hW.2 _ _ h1 h2
    · rw [e] at h1; cases h1
  obtain ⟨L', b1, b2, b3, b4, b5, b6⟩ := st_ph2 (A := A) (i := i) (v := v) (by omega) hv (fun w h1 h2 => by have := (Array.getElem?_eq_some_iff.mp (a6 w h1 h2)).1; omega)
  have c : ∀ j, j ≠ i → j ≠ i + 1 → L'[j]? = L[j]? ∨ (j + 1 = i ∧ L[i]? = some .second ∧ L'[j]? = some .unset) ∨ (j = i + 2 ∧ L[j]? = some .second ∧ L'[j]? = some .unset) := fun j h1 h2 => by
    rcases b5 j h1 h2 with e | ⟨e1, e2, w, e3, e4⟩
    · rcases a3 j h1 h2 with r | ⟨r1, r2, r3⟩
      · exact Or.inl (e.trans r)
      · exact Or.inr (Or.inl ⟨r1, r2, e.trans r3⟩)
    · subst e1; exact Or.inr (Or.inr ⟨rfl, a6 w e3 e4, e2⟩)
  have cs : L[i]? = some .second → ∀ j, j + 1 = i → L'[j]? = some .unset := fun q j hj => by
    rcases b5 j (by omega) (by omega) with e | ⟨e1, -⟩
    · exact e.trans (a5 q j hj)
    · omega
  have c2 : L[i + 2]? = some .second → L'[i + 2]? = some .unset := fun q => by
    obtain ⟨j', w, z1, z2, z3⟩ := hW.1 _ q
    have : j' = i + 1 := by omega
    subst this
    rcases a4 with e | ⟨-, e⟩
    · exact b6 ⟨w, e.trans z2, z3⟩
    · rw [e] at z2; cases z2
  refine ⟨L', a1.trans b1, b2.trans a2, ⟨fun j hj => ?_, fun j w hj hw => ?_⟩, b3, b4, fun j h1 h2 => ?_⟩
  · by_cases e0 : j = i
    · subst e0; rw [b3] at hj; cases hj
    by_cases e1 : j = i + 1
    · exact ⟨i, v, e1, b3, hv⟩
    rcases c j e0 e1 with r | ⟨-, -, r⟩ | ⟨-, -, r⟩
    · rw [r] at hj
      obtain ⟨j', w, z1, z2, z3⟩ := hW.1 j hj
      refine ⟨j', w, z1, ?_, z3⟩
      have n0 : j' ≠ i := by omega
      by_cases n1 : j' = i + 1
      · have : j = i + 2 := by omega
        subst this
        rw [c2 hj] at r; rw [hj] at r; cases r
      rcases c j' n0 n1 with u | ⟨u, -, -⟩ | ⟨-, u, -⟩
      · exact u.trans z2
      · omega
      · rw [z2] at u; cases u
    · rw [r] at hj; cases hj
    · rw [r] at hj; cases hj
  · by_cases e0 : j = i
    · subst e0; exact b4
    by_cases e1 : j = i + 1
    · subst e1; rw [b4] at hj; cases hj
    rcases c j e0 e1 with r | ⟨-, -, r⟩ | ⟨-, -, r⟩
    · have hj' := hj
      rw [r] at hj
      have z := hW.2 j w hj hw
      by_cases n0 : j + 1 = i
      · subst n0; rw [cs z j rfl] at hj'; cases hj'
      by_cases n1 : j + 1 = i + 1
      · omega
      rcases c (j + 1) n0 n1 with u | ⟨u1, u2, -⟩ | ⟨u, -, -⟩
      · exact u.trans z
      · obtain ⟨j', w', y1, y2, y3⟩ := hW.1 i u2
        have : j' = j + 1 := by omega
        subst this; rw [z] at y2; cases y2
      · omega
    · rw [r] at hj; cases hj
    · rw [r] at hj; cases hj
  · rcases c j h1 h2 with r | ⟨r1, r2, -⟩ | ⟨r1, r2, -⟩
    · exact Or.inl r
    · exact Or.inr (Or.inl ⟨r1, r2⟩)
    · exact Or.inr (Or.inr ⟨r1, r2⟩)
theorem Fits.store2 {P : Pat} {L : Array Slot} {i : Nat} {v : Value} (h : Fits P L) (hi : i + 1 < L.size) (hv : v.category = 2) :
    ∃ L', storeLocals L i v = some L' ∧ L'.size = L.size ∧ Fits (ps2 P i v) L' := by
  obtain ⟨L', e1, e2, e3, e4, e4', e5⟩ := store_two h.2 hi hv
  refine ⟨L', e1, e2, fun j s hj => ?_, e3⟩
  rcases pget_pput _ _ _ _ _ hj with ⟨rfl, q⟩ | ⟨ne, q⟩
  · rw [e4']; exact q
  rcases pget_pput _ _ _ _ _ q with ⟨rfl, q'⟩ | ⟨ne', q'⟩
  · rw [e4]; exact q'
  obtain ⟨q1, q2⟩ := pk2_sub q'
  obtain ⟨q3, q4⟩ := pkp_sub q1
  have hL := h.1 j s q3
  rcases e5 j ne' ne with r | ⟨r1, r2⟩ | ⟨r1, r2⟩
  · rw [r]; exact hL
  · obtain ⟨j', w, z1, z2, z3⟩ := h.2.1 i r2
    have : j' = j := by omega
    subst this
    rw [hL] at z2; cases z2
    have := q4 r1 w rfl; omega
  · rw [hL] at r2; cases r2
    exact absurd rfl (q2 r1)
/- what a body does from a place on -/
def Runs (C : Ctx) (M : Bdy) (k n pc : Nat) (P : Pat) (S : List Value) (G : AH) (Q : Option Value → AH → Prop) : Prop :=
  Ok C → ∀ (p : Program) (e : Env) (s : State) (m : MethodId) (args : Array Value) (below : List Frame) (meth : Method) (c : Code) (T : State) (locs : List Loc) (L : Array Slot),
    p.tables.exec = Jvm.exec → c.code = M.2.1 → c.maxLocals = M.2.2.1 → meth.sig.returnType = M.2.2.2.1 → meth.name = M.1.name → s.vm.findClass M.1.cls = some m.cls → C.2.1.Warmed39 s.vm →
    Fits P L → L.size = M.2.2.1 → Stand p C.1 e M.2.2.2.2 s m args below meth c T locs k n → Rep C.2.1 C.2.2.1 T.heap G → Fr C.2.2.1 locs →
    ∃ (T' : State) (locs' : List Loc) (k' n' : Nat) (r : Option Value) (G' : AH), Stand p C.1 e M.2.2.2.2 s m args below meth c T' locs' k' n' ∧ k' ≤ M.2.2.2.2.cells ∧ n' ≤ M.2.2.2.2.slots ∧ Rep C.2.1 C.2.2.1 T'.heap G' ∧ Fr C.2.2.1 locs' ∧ Q r G' ∧
      (M.2.2.2.1 = none → r = none) ∧
      ∀ fs : List Frame, (∀ (f : JFrame) (acts : List Action), f.method = m → f.locked = none → f.entered = [] → (doReturn e (T'.setTop f) acts r).1 = T'.setFrames fs) → Steps p.tables e below (T.setTop (mkF m pc L S)) (T'.setFrames fs)
section Rules
variable {C : Ctx} {M : Bdy} {k n pc q : Nat} {P P' : Pat} {S S' : List Value} {G : AH} {Q : Option Value → AH → Prop}
/-- a step that leaves the heap alone -/
theorem Runs.pure {i : Instr} {len : Nat} (d : DAt M pc i len q) {pc' : Nat}
    (st : ∀ (p : Program) (e : Env) (s : State) (m : MethodId) (args : Array Value) (below : List Frame) (meth : Method) (c : Code) (T : State) (locs : List Loc) (L : Array Slot), Ok C → p.tables.exec = Jvm.exec → s.vm.findClass M.1.cls = some m.cls → C.2.1.Warmed39 s.vm → decode c.code pc = .ok (i, len) → Fits P L → L.size = M.2.2.1 → Rep C.2.1 C.2.2.1 T.heap G →
      Stand p C.1 e M.2.2.2.2 s m args below meth c T locs k n → ∃ L', Fits P' L' ∧ L'.size = M.2.2.1 ∧ ∀ t, Steps p.tables e below (T.setTop (mkF m pc' L' S')) t → Steps p.tables e below (T.setTop (mkF m pc L S)) t)
    (h : Runs C M k n pc' P' S' G Q) : Runs C M k n pc P S G Q := by
  intro hw p e s m args below meth c T locs L hx hby hml hret hnm hown hZ hP hsz X hR hF
  obtain ⟨L', f1, f2, f3⟩ := st p e s m args below meth c T locs L hw hx hown hZ (hb hby d.1) hP hsz hR X
  obtain ⟨T', locs', k', n', r, G', g1, g2, g3, g4, g5, g6, g7, g8⟩ := h hw p e s m args below meth c T locs L' hx hby hml hret hnm hown hZ f1 f2 X hR hF
  exact ⟨T', locs', k', n', r, G', g1, g2, g3, g4, g5, g6, g7, fun fs hr => f3 _ (g8 fs hr)⟩
/-- a step that keeps the locals and what the heap says -/
theorem Runs.stk {i : Instr} {len : Nat} (d : DAt M pc i len q)
    (st : ∀ (p : Program) (e : Env) (s : State) (m : MethodId) (args : Array Value) (below : List Frame) (meth : Method) (c : Code) (T : State) (locs : List Loc) (L : Array Slot), p.tables.exec = Jvm.exec → decode c.code pc = .ok (i, len) → Fits P L →
      Stand p C.1 e M.2.2.2.2 s m args below meth c T locs k n → ∀ t, Steps p.tables e below (T.setTop (mkF m (pc + len) L S')) t → Steps p.tables e below (T.setTop (mkF m pc L S)) t)
    (h : Runs C M k n q P S' G Q) : Runs C M k n pc P S G Q := by
  have hq := d.2
  subst hq
  exact Runs.pure d (fun p e s m args below meth c T locs L _ hx _ _ hd hP hsz _ X => ⟨L, hP, hsz, st p e s m args below meth c T locs L hx hd hP X⟩) h
theorem Runs.iloadN {j : Fin 4} {v : Int32} (d : DAt M pc (.iload_n j) 1 q) (hl : pget P j.val = vi v) (h : Runs C M k n q P (.int v :: S) G Q) : Runs C M k n pc P S G Q :=
  Runs.stk d (fun p e s m args below meth c T locs L hx hd hP X t r => XS.iloadN (g := mkF m pc L S) X.here hx rfl hd (hP.1 _ _ hl) r) h
theorem Runs.iload {j : Nat} {v : Int32} (d : DAt M pc (.iload j) 2 q) (hl : pget P j = vi v) (h : Runs C M k n q P (.int v :: S) G Q) : Runs C M k n pc P S G Q :=
  Runs.stk d (fun p e s m args below meth c T locs L hx hd hP X t r => XS.iload (g := mkF m pc L S) X.here hx rfl hd (hP.1 _ _ hl) r) h
theorem Runs.lloadN {j : Fin 4} {v : Int64} (d : DAt M pc (.lload_n j) 1 q) (hl : pget P j.val = vl v) (h : Runs C M k n q P (.long v :: S) G Q) : Runs C M k n pc P S G Q :=
  Runs.stk d (fun p e s m args below meth c T locs L hx hd hP X t r => XS.lloadN (g := mkF m pc L S) X.here hx rfl hd (hP.1 _ _ hl) r) h
theorem Runs.lload {j : Nat} {v : Int64} (d : DAt M pc (.lload j) 2 q) (hl : pget P j = vl v) (h : Runs C M k n q P (.long v :: S) G Q) : Runs C M k n pc P S G Q :=
  Runs.stk d (fun p e s m args below meth c T locs L hx hd hP X t r => XS.lload (g := mkF m pc L S) X.here hx rfl hd (hP.1 _ _ hl) r) h
theorem Runs.aloadN {j : Fin 4} {v : Nat} (d : DAt M pc (.aload_n j) 1 q) (hl : pget P j.val = vr v) (h : Runs C M k n q P (.ref v :: S) G Q) : Runs C M k n pc P S G Q :=
  Runs.stk d (fun p e s m args below meth c T locs L hx hd hP X t r => XS.aloadN (g := mkF m pc L S) X.here hx rfl hd (hP.1 _ _ hl) rfl r) h
theorem Runs.aload {j : Nat} {v : Nat} (d : DAt M pc (.aload j) 2 q) (hl : pget P j = vr v) (h : Runs C M k n q P (.ref v :: S) G Q) : Runs C M k n pc P S G Q :=
  Runs.stk d (fun p e s m args below meth c T locs L hx hd hP X t r => XS.aload (g := mkF m pc L S) X.here hx rfl hd (hP.1 _ _ hl) rfl r) h
theorem Runs.iconst {i : Int} {v : Int32} (d : DAt M pc (.iconst i) 1 q) (hv : Int32.ofInt i = v) (h : Runs C M k n q P (.int v :: S) G Q) : Runs C M k n pc P S G Q :=
  Runs.stk d (fun p e s m args below meth c T locs L hx hd hP X t r => XS.iconst (g := mkF m pc L S) X.here hx rfl hd (by rw [hv]; exact r)) h
theorem Runs.bipush {i : Int} {v : Int32} (d : DAt M pc (.bipush i) 2 q) (hv : (Int8.ofInt i).toInt32 = v) (h : Runs C M k n q P (.int v :: S) G Q) : Runs C M k n pc P S G Q :=
  Runs.stk d (fun p e s m args below meth c T locs L hx hd hP X t r => XS.bipush (g := mkF m pc L S) X.here hx rfl hd (by rw [hv]; exact r)) h
theorem Runs.sipush {i : Int} {v : Int32} (d : DAt M pc (.sipush i) 3 q) (hv : (Int16.ofInt i).toInt32 = v) (h : Runs C M k n q P (.int v :: S) G Q) : Runs C M k n pc P S G Q :=
  Runs.stk d (fun p e s m args below meth c T locs L hx hd hP X t r => XS.sipush (g := mkF m pc L S) X.here hx rfl hd (by rw [hv]; exact r)) h
theorem Runs.lconst {i : Fin 2} {v : Int64} (d : DAt M pc (.lconst i) 1 q) (hv : Int64.ofNat i = v) (h : Runs C M k n q P (.long v :: S) G Q) : Runs C M k n pc P S G Q :=
  Runs.stk d (fun p e s m args below meth c T locs L hx hd hP X t r => Jvm.Free.XT.lconstV (g := mkF m pc L S) X.here hx rfl v hd hv r) h
theorem Runs.ldc {i : Nat} {v : Int32} (d : DAt M pc (.ldc i) 2 q) (w : Jvm.Cond.constant M.1.cls i v ∈ tables_1) (h : Runs C M k n q P (.int v :: S) G Q) : Runs C M k n pc P S G Q := by
  have hq := d.2
  subst hq
  exact Runs.pure d (fun p e s m args below meth c T locs L hw hx hown hZ hd hP hsz _ X => ⟨L, hP, hsz, fun t r => X.ldcInt hx hown (mvT hZ (hw _ w)) (g := mkF m pc L S) rfl hd t r⟩) h
theorem Runs.ldc2 {i : Nat} {v : Int64} (d : DAt M pc (.ldc2_w i) 3 q) (w : Jvm.Cond.constantLong M.1.cls i v ∈ tables_1) (h : Runs C M k n q P (.long v :: S) G Q) : Runs C M k n pc P S G Q := by
  have hq := d.2
  subst hq
  exact Runs.pure d (fun p e s m args below meth c T locs L hw hx hown hZ hd hP hsz _ X => ⟨L, hP, hsz, fun t r => X.ldc2Long hx hown (mvT hZ (hw _ w)) (g := mkF m pc L S) rfl hd t r⟩) h
theorem Runs.iadd {x y : Int32} (d : DAt M pc .iadd 1 q) (h : Runs C M k n q P (.int (x + y) :: S) G Q) : Runs C M k n pc P (.int y :: .int x :: S) G Q :=
  Runs.stk d (fun p e s m args below meth c T locs L hx hd hP X t r => XS.iadd (g := mkF m pc L (.int y :: .int x :: S)) X.here hx rfl hd rfl r) h
theorem Runs.isub {x y : Int32} (d : DAt M pc .isub 1 q) (h : Runs C M k n q P (.int (x - y) :: S) G Q) : Runs C M k n pc P (.int y :: .int x :: S) G Q :=
  Runs.stk d (fun p e s m args below meth c T locs L hx hd hP X t r => XS.isub (g := mkF m pc L (.int y :: .int x :: S)) X.here hx rfl hd rfl r) h
theorem Runs.imul {x y : Int32} (d : DAt M pc .imul 1 q) (h : Runs C M k n q P (.int (x * y) :: S) G Q) : Runs C M k n pc P (.int y :: .int x :: S) G Q :=
  Runs.stk d (fun p e s m args below meth c T locs L hx hd hP X t r => XS.imul (g := mkF m pc L (.int y :: .int x :: S)) X.here hx rfl hd rfl r) h
theorem Runs.iand {x y : Int32} (d : DAt M pc .iand 1 q) (h : Runs C M k n q P (.int (x &&& y) :: S) G Q) : Runs C M k n pc P (.int y :: .int x :: S) G Q :=
  Runs.stk d (fun p e s m args below meth c T locs L hx hd hP X t r => XS.iand (g := mkF m pc L (.int y :: .int x :: S)) X.here hx rfl hd rfl r) h
theorem Runs.ior {x y : Int32} (d : DAt M pc .ior 1 q) (h : Runs C M k n q P (.int (x ||| y) :: S) G Q) : Runs C M k n pc P (.int y :: .int x :: S) G Q :=
  Runs.stk d (fun p e s m args below meth c T locs L hx hd hP X t r => XS.ior (g := mkF m pc L (.int y :: .int x :: S)) X.here hx rfl hd rfl r) h
theorem Runs.ixor {x y : Int32} (d : DAt M pc .ixor 1 q) (h : Runs C M k n q P (.int (x ^^^ y) :: S) G Q) : Runs C M k n pc P (.int y :: .int x :: S) G Q :=
  Runs.stk d (fun p e s m args below meth c T locs L hx hd hP X t r => XS.ixor (g := mkF m pc L (.int y :: .int x :: S)) X.here hx rfl hd rfl r) h
theorem Runs.ladd {x y : Int64} (d : DAt M pc .ladd 1 q) (h : Runs C M k n q P (.long (x + y) :: S) G Q) : Runs C M k n pc P (.long y :: .long x :: S) G Q :=
  Runs.stk d (fun p e s m args below meth c T locs L hx hd hP X t r => XS.ladd (g := mkF m pc L (.long y :: .long x :: S)) X.here hx rfl hd rfl r) h
theorem Runs.lsub {x y : Int64} (d : DAt M pc .lsub 1 q) (h : Runs C M k n q P (.long (x - y) :: S) G Q) : Runs C M k n pc P (.long y :: .long x :: S) G Q :=
  Runs.stk d (fun p e s m args below meth c T locs L hx hd hP X t r => XS.lsub (g := mkF m pc L (.long y :: .long x :: S)) X.here hx rfl hd rfl r) h
theorem Runs.lmul {x y : Int64} (d : DAt M pc .lmul 1 q) (h : Runs C M k n q P (.long (x * y) :: S) G Q) : Runs C M k n pc P (.long y :: .long x :: S) G Q :=
  Runs.stk d (fun p e s m args below meth c T locs L hx hd hP X t r => XS.lmul (g := mkF m pc L (.long y :: .long x :: S)) X.here hx rfl hd rfl r) h
theorem Runs.land {x y : Int64} (d : DAt M pc .land 1 q) (h : Runs C M k n q P (.long (x &&& y) :: S) G Q) : Runs C M k n pc P (.long y :: .long x :: S) G Q :=
  Runs.stk d (fun p e s m args below meth c T locs L hx hd hP X t r => XS.land (g := mkF m pc L (.long y :: .long x :: S)) X.here hx rfl hd rfl r) h
theorem Runs.lor {x y : Int64} (d : DAt M pc .lor 1 q) (h : Runs C M k n q P (.long (x ||| y) :: S) G Q) : Runs C M k n pc P (.long y :: .long x :: S) G Q :=
  Runs.stk d (fun p e s m args below meth c T locs L hx hd hP X t r => XS.lor (g := mkF m pc L (.long y :: .long x :: S)) X.here hx rfl hd rfl r) h
theorem Runs.lxor {x y : Int64} (d : DAt M pc .lxor 1 q) (h : Runs C M k n q P (.long (x ^^^ y) :: S) G Q) : Runs C M k n pc P (.long y :: .long x :: S) G Q :=
  Runs.stk d (fun p e s m args below meth c T locs L hx hd hP X t r => XS.lxor (g := mkF m pc L (.long y :: .long x :: S)) X.here hx rfl hd rfl r) h
theorem Runs.ishl {x : Int32} {y : Int32} (d : DAt M pc .ishl 1 q) (h : Runs C M k n q P (.int (x <<< (y &&& 31)) :: S) G Q) : Runs C M k n pc P (.int y :: .int x :: S) G Q :=
  Runs.stk d (fun p e s m args below meth c T locs L hx hd hP X t r => XS.ishl (g := mkF m pc L (.int y :: .int x :: S)) X.here hx rfl hd rfl r) h
theorem Runs.ishr {x : Int32} {y : Int32} (d : DAt M pc .ishr 1 q) (h : Runs C M k n q P (.int (x >>> (y &&& 31)) :: S) G Q) : Runs C M k n pc P (.int y :: .int x :: S) G Q :=
  Runs.stk d (fun p e s m args below meth c T locs L hx hd hP X t r => XS.ishr (g := mkF m pc L (.int y :: .int x :: S)) X.here hx rfl hd rfl r) h
theorem Runs.iushr {x : Int32} {y : Int32} (d : DAt M pc .iushr 1 q) (h : Runs C M k n q P (.int ((x.toUInt32 >>> (y &&& 31).toUInt32).toInt32) :: S) G Q) : Runs C M k n pc P (.int y :: .int x :: S) G Q :=
  Runs.stk d (fun p e s m args below meth c T locs L hx hd hP X t r => XS.iushr (g := mkF m pc L (.int y :: .int x :: S)) X.here hx rfl hd rfl r) h
theorem Runs.lshl {x : Int64} {y : Int32} (d : DAt M pc .lshl 1 q) (h : Runs C M k n q P (.long (x <<< (y &&& 0x3f).toInt64) :: S) G Q) : Runs C M k n pc P (.int y :: .long x :: S) G Q :=
  Runs.stk d (fun p e s m args below meth c T locs L hx hd hP X t r => XS.lshl (g := mkF m pc L (.int y :: .long x :: S)) X.here hx rfl hd rfl r) h
theorem Runs.lshr {x : Int64} {y : Int32} (d : DAt M pc .lshr 1 q) (h : Runs C M k n q P (.long (x >>> (y &&& 0x3f).toInt64) :: S) G Q) : Runs C M k n pc P (.int y :: .long x :: S) G Q :=
  Runs.stk d (fun p e s m args below meth c T locs L hx hd hP X t r => XS.lshr (g := mkF m pc L (.int y :: .long x :: S)) X.here hx rfl hd rfl r) h
theorem Runs.lushr {x : Int64} {y : Int32} (d : DAt M pc .lushr 1 q) (h : Runs C M k n q P (.long ((x.toUInt64 >>> (y &&& 0x3f).toInt64.toUInt64).toInt64) :: S) G Q) : Runs C M k n pc P (.int y :: .long x :: S) G Q :=
  Runs.stk d (fun p e s m args below meth c T locs L hx hd hP X t r => XS.lushr (g := mkF m pc L (.int y :: .long x :: S)) X.here hx rfl hd rfl r) h
theorem Runs.ineg {x : Int32} (d : DAt M pc .ineg 1 q) (h : Runs C M k n q P (.int (-x) :: S) G Q) : Runs C M k n pc P (.int x :: S) G Q :=
  Runs.stk d (fun p e s m args below meth c T locs L hx hd hP X t r => XS.ineg (g := mkF m pc L (.int x :: S)) X.here hx rfl hd rfl r) h
theorem Runs.lneg {x : Int64} (d : DAt M pc .lneg 1 q) (h : Runs C M k n q P (.long (-x) :: S) G Q) : Runs C M k n pc P (.long x :: S) G Q :=
  Runs.stk d (fun p e s m args below meth c T locs L hx hd hP X t r => XS.lneg (g := mkF m pc L (.long x :: S)) X.here hx rfl hd rfl r) h
theorem Runs.i2l {x : Int32} (d : DAt M pc .i2l 1 q) (h : Runs C M k n q P (.long x.toInt64 :: S) G Q) : Runs C M k n pc P (.int x :: S) G Q :=
  Runs.stk d (fun p e s m args below meth c T locs L hx hd hP X t r => XS.i2l (g := mkF m pc L (.int x :: S)) X.here hx rfl hd rfl r) h
theorem Runs.l2i {x : Int64} (d : DAt M pc .l2i 1 q) (h : Runs C M k n q P (.int x.toInt32 :: S) G Q) : Runs C M k n pc P (.long x :: S) G Q :=
  Runs.stk d (fun p e s m args below meth c T locs L hx hd hP X t r => XS.l2i (g := mkF m pc L (.long x :: S)) X.here hx rfl hd rfl r) h
theorem Runs.lcmp {x y : Int64} (d : DAt M pc .lcmp 1 q) (h : Runs C M k n q P (.int (lcmpW x y) :: S) G Q) : Runs C M k n pc P (.long y :: .long x :: S) G Q :=
  Runs.stk d (fun p e s m args below meth c T locs L hx hd hP X t r => XS.lcmp (g := mkF m pc L (.long y :: .long x :: S)) X.here hx rfl hd rfl r) h
theorem Runs.idiv {x y : Int32} (d : DAt M pc .idiv 1 q) (hy : y ≠ 0) (h : Runs C M k n q P (.int (x / y) :: S) G Q) : Runs C M k n pc P (.int y :: .int x :: S) G Q :=
  Runs.stk d (fun p e s m args below meth c T locs L hx hd hP X t r => XS.idiv (g := mkF m pc L (.int y :: .int x :: S)) X.here hx rfl hd rfl hy r) h
theorem Runs.irem {x y : Int32} (d : DAt M pc .irem 1 q) (hy : y ≠ 0) (h : Runs C M k n q P (.int (x % y) :: S) G Q) : Runs C M k n pc P (.int y :: .int x :: S) G Q :=
  Runs.stk d (fun p e s m args below meth c T locs L hx hd hP X t r => iremM (g := mkF m pc L (.int y :: .int x :: S)) X hx rfl hd rfl hy r) h
theorem Runs.dup {x : Value} (d : DAt M pc .dup 1 q) (hc : x.category = 1) (h : Runs C M k n q P (x :: x :: S) G Q) : Runs C M k n pc P (x :: S) G Q :=
  Runs.stk d (fun p e s m args below meth c T locs L hx hd hP X t r => XS.dup (g := mkF m pc L (x :: S)) X.here hx rfl hd rfl hc r) h
theorem Runs.dup2 {x y : Value} (d : DAt M pc .dup2 1 q) (hc : x.category = 1) (hc' : y.category = 1) (h : Runs C M k n q P (x :: y :: x :: y :: S) G Q) : Runs C M k n pc P (x :: y :: S) G Q :=
  Runs.stk d (fun p e s m args below meth c T locs L hx hd hP X t r => Jvm.Free.XT.dup2 (g := mkF m pc L (x :: y :: S)) X.here hx rfl hd rfl hc hc' r) h
theorem Runs.pop {x : Value} (d : DAt M pc .pop 1 q) (hc : x.category = 1) (h : Runs C M k n q P S G Q) : Runs C M k n pc P (x :: S) G Q :=
  Runs.stk d (fun p e s m args below meth c T locs L hx hd hP X t r => XS.pop (g := mkF m pc L (x :: S)) X.here hx rfl hd rfl hc r) h
theorem Runs.goto {o : Int} {pc' : Nat} (d : DAt M pc (.goto o) 3 q) (ho : 0 ≤ (pc : Int) + o ∧ ((pc : Int) + o).toNat = pc') (h : Runs C M k n pc' P S G Q) : Runs C M k n pc P S G Q :=
  Runs.pure d (fun p e s m args below meth c T locs L hw hx hown hZ hd hP hsz _ X => ⟨L, hP, hsz, fun t r => XS.goto (g := mkF m pc L S) X.here hx rfl (pc0 := pc) rfl hd ho.1 ho.2 r⟩) h
theorem Runs.ifY {cd : ClassFile.Cond} {x : Int32} {o : Int} {pc' : Nat} (d : DAt M pc (.ifCond cd o) 3 q) (hc : if_icmp.holds cd x 0 = true) (ho : 0 ≤ (pc : Int) + o ∧ ((pc : Int) + o).toNat = pc') (h : Runs C M k n pc' P S G Q) : Runs C M k n pc P (.int x :: S) G Q :=
  Runs.pure d (fun p e s m args below meth c T locs L hw hx hown hZ hd hP hsz _ X => ⟨L, hP, hsz, fun t r => XS.ifYes (g := mkF m pc L (.int x :: S)) X.here hx rfl (pc0 := pc) rfl hd rfl ((if0 _ _).trans hc) ho.1 ho.2 r⟩) h
theorem Runs.ifN {cd : ClassFile.Cond} {x : Int32} {o : Int} (d : DAt M pc (.ifCond cd o) 3 q) (hc : if_icmp.holds cd x 0 = false) (h : Runs C M k n q P S G Q) : Runs C M k n pc P (.int x :: S) G Q :=
  Runs.stk d (fun p e s m args below meth c T locs L hx hd hP X t r => XS.ifNo (g := mkF m pc L (.int x :: S)) X.here hx rfl hd rfl ((if0 _ _).trans hc) r) h
theorem Runs.icY {cd : ClassFile.Cond} {x y : Int32} {o : Int} {pc' : Nat} (d : DAt M pc (.if_icmp cd o) 3 q) (hc : if_icmp.holds cd x y = true) (ho : 0 ≤ (pc : Int) + o ∧ ((pc : Int) + o).toNat = pc') (h : Runs C M k n pc' P S G Q) : Runs C M k n pc P (.int y :: .int x :: S) G Q :=
  Runs.pure d (fun p e s m args below meth c T locs L hw hx hown hZ hd hP hsz _ X => ⟨L, hP, hsz, fun t r => XS.icmpYes (g := mkF m pc L (.int y :: .int x :: S)) X.here hx rfl (pc0 := pc) rfl hd rfl hc ho.1 ho.2 r⟩) h
theorem Runs.icN {cd : ClassFile.Cond} {x y : Int32} {o : Int} (d : DAt M pc (.if_icmp cd o) 3 q) (hc : if_icmp.holds cd x y = false) (h : Runs C M k n q P S G Q) : Runs C M k n pc P (.int y :: .int x :: S) G Q :=
  Runs.stk d (fun p e s m args below meth c T locs L hx hd hP X t r => XS.icmpNo (g := mkF m pc L (.int y :: .int x :: S)) X.here hx rfl hd rfl hc r) h
theorem Runs.tswI {dflt low high : Int} {offs : Array Int} {len : Nat} {o : Int} {pc' : Nat} {i : Int32} (d : DAt M pc (.tableswitch dflt low high offs) len q) (hin : ¬ (i.toInt < low ∨ i.toInt > high)) (hoff : offs[(i.toInt - low).toNat]? = some o) (ho : 0 ≤ (pc : Int) + o ∧ ((pc : Int) + o).toNat = pc') (h : Runs C M k n pc' P S G Q) : Runs C M k n pc P (.int i :: S) G Q :=
  Runs.pure d (fun p e s m args below meth c T locs L hw hx hown hZ hd hP hsz _ X => ⟨L, hP, hsz, fun t r => XS.tswIn (g := mkF m pc L (.int i :: S)) X.here hx rfl (pc0 := pc) rfl hd rfl hin hoff ho.1 ho.2 r⟩) h
theorem Runs.tswO {dflt low high : Int} {offs : Array Int} {len : Nat} {pc' : Nat} {i : Int32} (d : DAt M pc (.tableswitch dflt low high offs) len q) (hout : i.toInt < low ∨ i.toInt > high) (ho : 0 ≤ (pc : Int) + dflt ∧ ((pc : Int) + dflt).toNat = pc') (h : Runs C M k n pc' P S G Q) : Runs C M k n pc P (.int i :: S) G Q :=
  Runs.pure d (fun p e s m args below meth c T locs L hw hx hown hZ hd hP hsz _ X => ⟨L, hP, hsz, fun t r => XS.tswOut (g := mkF m pc L (.int i :: S)) X.here hx rfl (pc0 := pc) rfl hd rfl hout ho.1 ho.2 r⟩) h
theorem Runs.istoreN {j : Fin 4} {x : Int32} (d : DAt M pc (.istore_n j) 1 q) (hi : j.val < M.2.2.1) (hP' : ps1 P j.val (.int x) = P') (h : Runs C M k n q P' S G Q) : Runs C M k n pc P (.int x :: S) G Q := by
  have hq := d.2
  subst hq hP'
  refine Runs.pure d (fun p e s m args below meth c T locs L hw hx hown hZ hd hP hsz _ X => ?_) h
  obtain ⟨L', e1, e2, e3⟩ := hP.store1 (i := j.val) (v := .int x) (by omega) rfl
  exact ⟨L', e3, e2.trans hsz, fun t r => XS.istoreN (g := mkF m pc L (.int x :: S)) X.here hx rfl hd rfl e1 r⟩
theorem Runs.istore {j : Nat} {x : Int32} (d : DAt M pc (.istore j) 2 q) (hi : j < M.2.2.1) (hP' : ps1 P j (.int x) = P') (h : Runs C M k n q P' S G Q) : Runs C M k n pc P (.int x :: S) G Q := by
  have hq := d.2
  subst hq hP'
  refine Runs.pure d (fun p e s m args below meth c T locs L hw hx hown hZ hd hP hsz _ X => ?_) h
  obtain ⟨L', e1, e2, e3⟩ := hP.store1 (i := j) (v := .int x) (by omega) rfl
  exact ⟨L', e3, e2.trans hsz, fun t r => XS.istore (g := mkF m pc L (.int x :: S)) X.here hx rfl hd rfl e1 r⟩
theorem Runs.astoreN {j : Fin 4} {x : Nat} (d : DAt M pc (.astore_n j) 1 q) (hi : j.val < M.2.2.1) (hP' : ps1 P j.val (.ref x) = P') (h : Runs C M k n q P' S G Q) : Runs C M k n pc P (.ref x :: S) G Q := by
  have hq := d.2
  subst hq hP'
  refine Runs.pure d (fun p e s m args below meth c T locs L hw hx hown hZ hd hP hsz _ X => ?_) h
  obtain ⟨L', e1, e2, e3⟩ := hP.store1 (i := j.val) (v := .ref x) (by omega) rfl
  exact ⟨L', e3, e2.trans hsz, fun t r => XS.astoreN (g := mkF m pc L (.ref x :: S)) X.here hx rfl hd rfl rfl e1 r⟩
theorem Runs.astore {j : Nat} {x : Nat} (d : DAt M pc (.astore j) 2 q) (hi : j < M.2.2.1) (hP' : ps1 P j (.ref x) = P') (h : Runs C M k n q P' S G Q) : Runs C M k n pc P (.ref x :: S) G Q := by
  have hq := d.2
  subst hq hP'
  refine Runs.pure d (fun p e s m args below meth c T locs L hw hx hown hZ hd hP hsz _ X => ?_) h
  obtain ⟨L', e1, e2, e3⟩ := hP.store1 (i := j) (v := .ref x) (by omega) rfl
  exact ⟨L', e3, e2.trans hsz, fun t r => XS.astore (g := mkF m pc L (.ref x :: S)) X.here hx rfl hd rfl rfl e1 r⟩
theorem Runs.lstoreN {j : Fin 4} {x : Int64} (d : DAt M pc (.lstore_n j) 1 q) (hi : j.val + 1 < M.2.2.1) (hP' : ps2 P j.val (.long x) = P') (h : Runs C M k n q P' S G Q) : Runs C M k n pc P (.long x :: S) G Q := by
  have hq := d.2
  subst hq hP'
  refine Runs.pure d (fun p e s m args below meth c T locs L hw hx hown hZ hd hP hsz _ X => ?_) h
  obtain ⟨L', e1, e2, e3⟩ := hP.store2 (i := j.val) (v := .long x) (by omega) rfl
  exact ⟨L', e3, e2.trans hsz, fun t r => XS.lstoreN (g := mkF m pc L (.long x :: S)) X.here hx rfl hd rfl e1 r⟩
theorem Runs.lstore {j : Nat} {x : Int64} (d : DAt M pc (.lstore j) 2 q) (hi : j + 1 < M.2.2.1) (hP' : ps2 P j (.long x) = P') (h : Runs C M k n q P' S G Q) : Runs C M k n pc P (.long x :: S) G Q := by
  have hq := d.2
  subst hq hP'
  refine Runs.pure d (fun p e s m args below meth c T locs L hw hx hown hZ hd hP hsz _ X => ?_) h
  obtain ⟨L', e1, e2, e3⟩ := hP.store2 (i := j) (v := .long x) (by omega) rfl
  exact ⟨L', e3, e2.trans hsz, fun t r => XS.lstore (g := mkF m pc L (.long x :: S)) X.here hx rfl hd rfl e1 r⟩
theorem Runs.iinc {j : Nat} {cst : Int} {x v : Int32} (d : DAt M pc (.iinc j cst) 3 q) (hv : Int32.ofInt cst = v) (hl : pget P j = vi x) (hi : j < M.2.2.1) (hP' : ps1 P j (.int (x + v)) = P') (h : Runs C M k n q P' S G Q) : Runs C M k n pc P S G Q := by
  have hq := d.2
  subst hq hP' hv
  refine Runs.pure d (fun p e s m args below meth c T locs L hw hx hown hZ hd hP hsz _ X => ?_) h
  obtain ⟨L', e1, e2, e3⟩ := hP.store1 (i := j) (v := .int (x + Int32.ofInt cst)) (by omega) rfl
  exact ⟨L', e3, e2.trans hsz, fun t r => XS.iinc (g := mkF m pc L S) X.here hx rfl hd (hP.1 _ _ hl) e1 r⟩
/-- less is known of the locals -/
def psub : Pat → Pat → Prop
  | [], _ => True
  | none :: l, _ :: l' => psub l l'
  | some s :: l, y :: l' => y = some s ∧ psub l l'
  | none :: l, [] => psub l []
  | some _ :: _, [] => False
theorem psub_get : ∀ (P P' : Pat), psub P P' → ∀ i s, pget P i = some s → pget P' i = some s
  | [], _, _, i, s, h => by simp [pget] at h
  | none :: l, _ :: l', H, 0, s, h => by simp [pget] at h
  | none :: l, _ :: l', H, i + 1, s, h => psub_get l l' H i s h
  | some x :: l, y :: l', H, 0, s, h => by rw [show y = some x from H.1]; exact h
  | some x :: l, y :: l', H, i + 1, s, h => psub_get l l' H.2 i s h
  | none :: l, [], H, 0, s, h => by simp [pget] at h
  | none :: l, [], H, i + 1, s, h => by have := psub_get l [] H i s h; simp [pget] at this
  | some _ :: _, [], H, _, _, _ => H.elim
theorem Runs.weak (hP : psub P' P) (h : Runs C M k n pc P' S G Q) : Runs C M k n pc P S G Q := by
  intro hw p e s m args below meth c T locs L hx hby hml hret hnm hown hZ hf
  exact h hw p e s m args below meth c T locs L hx hby hml hret hnm hown hZ ⟨fun i s hi => hf.1 i s (psub_get _ _ hP i s hi), hf.2⟩
theorem Runs.swap {top : Nat} {x y : Nat × Nat × Rec} {H : List (Nat × Nat × Rec)} (h : Runs C M k n pc P S (top, y :: x :: H) Q) : Runs C M k n pc P S (top, x :: y :: H) Q := by
  intro hw p e s m args below meth c T locs L hx hby hml hret hnm hown hZ hf hsz X hR hF
  exact h hw p e s m args below meth c T locs L hx hby hml hret hnm hown hZ hf hsz X hR.swap hF
end Rules
/- the steps that touch the heap -/
section Made
variable {p : Program} {l : Launch} {e : Env} {R : Room} {s : State} {m : MethodId} {args : Array Value} {below : List Frame} {meth : Method} {c : Code} {T : State} {locs : List Loc} {cells slots : Nat} {Z : State} {a0 : Array Value}
theorem ext_push (h : Heap) (x : Cell) : Ext h (h.push x) := ⟨by simp, fun a c q => by rw [Array.getElem?_push_lt (Array.getElem?_eq_some_iff.mp q).1]; exact (Array.getElem?_eq_getElem _).symm.trans q⟩
/-- 'new', with the heap's size behind it -/
theorem new1 (X : Stand p l e R s m args below meth c T locs cells slots) (hx : p.tables.exec = Jvm.exec) (hZ : Z.Warmed39 s.vm) {own C : String} {index n : Nat} (hown : s.vm.findClass own = some m.cls) (w : (Jvm.Cond.classLink own index C).before a0 Z = true) (wi : (Jvm.Cond.instantiable C n).before a0 Z = true) (wz : (Jvm.Cond.initialized C).before a0 Z = true)
    {g : JFrame} (hg : g.method = m) (hd : decode c.code g.pc = .ok (.new index, 3)) (hc : cells + 1 ≤ R.cells) (hl : slots + n ≤ R.slots) :
    ∃ T', Stand p l e R s m args below meth c T' locs (cells + 1) (slots + n) ∧ T'.heap.size = T.heap.size + 1 ∧ Ext T.heap T'.heap ∧ Exa Z T'.heap T.heap.size C ∧ (∀ {O nm d : String} {ty : FieldType}, Laid Z a0 C O nm d → parseFieldDescriptor d = some ty → Fld Z T'.heap T.heap.size O nm d (defaultValue ty)) ∧
      ∀ target, Steps p.tables e below (T'.setTop { g with pc := g.pc + 3, stack := .ref T.heap.size :: g.stack }) target → Steps p.tables e below (T.setTop g) target := by
  obtain ⟨vm', cC, kC, h1, h2, h3, h4, X', st⟩ := X.newCold hx hown (mv hZ w) (mv hZ wi) (mv hZ wz) hg hd hc hl
  rw [hZ.alike.findClass] at h1
  obtain ⟨kZ, z1, -⟩ := Vm.findClass_spec h1
  obtain ⟨k', z2, z3⟩ := hZ.alike.2.2 _ _ z1
  have ek : kC.instanceTypes = kZ.instanceTypes := by rw [Option.some.inj (h2.symm.trans z2), z3]
  obtain ⟨cell, hcell⟩ : ∃ cell : Cell, cell = { cls := cC, slots := kC.instanceTypes.map defaultValue, vm := .none } := ⟨_, rfl⟩
  rw [← hcell] at X' st
  have hp : ((T.setVm vm').pushCell cell).heap = T.heap.push cell := rfl
  have at' : (T.heap.push cell)[T.heap.size]? = some cell := by simp
  refine ⟨_, X', by rw [hp]; simp, by rw [hp]; exact ext_push _ _, ?_, fun {O nm d ty} L ht => ?_, st⟩
  · rw [hp]; exact ⟨cell, kZ, at', by rw [hcell]; exact h1, by rw [hcell]; exact z1, by rw [hcell]; rfl, fun _ => by rw [hcell]; simp [ek]⟩
  · rw [hp]
    obtain ⟨c1, k1, cf, kf, i, f, a1, a2, a3, a4, a5, a6, -⟩ := L.spec
    cases h1.symm.trans a1
    cases z1.symm.trans a2
    refine ⟨cell, cf, kf, i, f, at', a3, a4, by rw [hcell]; simp, by rw [hcell]; rfl, by rw [hcell]; exact a5, ?_⟩
    rw [hcell]; simp [ek, a6, (State.fieldFound?_type a3 ht).2]
theorem newArr1 (X : Stand p l e R s m args below meth c T locs cells slots) (hx : p.tables.exec = Jvm.exec) (hZ : Z.Warmed39 s.vm) {aty : ArrayType} (w : (Jvm.Cond.arrayClass (newarray.typeOf aty)).before a0 Z = true) {g : JFrame} (hg : g.method = m) (hd : decode c.code g.pc = .ok (.newarray aty, 2)) {n : Int32} {rest : List Value} (hs : g.stack = .int n :: rest)
    (hn : ¬ n < 0) (hb : n.toNatClampNeg * 8 ≤ 536870912) (hc : cells + 1 ≤ R.cells) (hl : slots + n.toNatClampNeg ≤ R.slots) :
    ∃ T' cA, Stand p l e R s m args below meth c T' locs (cells + 1) (slots + n.toNatClampNeg) ∧ T'.heap.size = T.heap.size + 1 ∧ Ext T.heap T'.heap ∧ Arr Z T'.heap T.heap.size (newA cA (newarray.typeOf aty) n) (newarray.typeOf aty) ∧
      ∀ target, Steps p.tables e below (T'.setTop { g with pc := g.pc + 2, stack := .ref T.heap.size :: rest }) target → Steps p.tables e below (T.setTop g) target := by
  have hcb : componentBytes (newarray.typeOf aty) ≤ 8 := by cases aty <;> decide
  obtain ⟨cA, kA, comp, h1, h2, h3, X', st⟩ := X.newarrayPrim hx (mvA hZ w) hg hd hs hn (Nat.le_trans (Nat.mul_le_mul_left _ hcb) hb) hc hl
  rw [hZ.alike.findClass] at h1
  obtain ⟨kZ, z1, -⟩ := Vm.findClass_spec h1
  obtain ⟨k', z2, z3⟩ := hZ.alike.2.2 _ _ z1
  have ek : kA.kind = kZ.kind := by rw [Option.some.inj (h2.symm.trans z2), z3]
  have hp : (T.pushCell (newA cA (newarray.typeOf aty) n)).heap = T.heap.push (newA cA (newarray.typeOf aty) n) := rfl
  refine ⟨T.pushCell (newA cA (newarray.typeOf aty) n), cA, X', by rw [hp]; simp, by rw [hp]; exact ext_push _ _, ?_, st⟩
  rw [hp]
  exact ⟨by simp, ⟨by simp [newA], kZ, z1, comp, by rw [← ek]; exact h3⟩, by simp [newA]⟩
end Made
section Heap
variable {C : Ctx} {M : Bdy} {k n pc q : Nat} {P P' : Pat} {S S' : List Value} {G : AH} {Q : Option Value → AH → Prop} {top : Nat} {a : Nat} {qq j idx : Nat} {ob : Rec} {H : List (Nat × Nat × Rec)} {nm ds : String}
theorem Runs.getI (d : DAt M pc (.getfield idx) 3 q) (w : Jvm.Cond.fieldLink M.1.cls idx K.1 nm ds ∈ tables_1) (hk : K.2.1[j]? = some (nm, ds)) (h : Runs C M k n q P (.int (gI ob j) :: S) (top, (a, qq, ob) :: H) Q) : Runs C M k n pc P (.ref a :: S) (top, (a, qq, ob) :: H) Q := by
  intro hw p e s m args below meth c T locs L hx hby hml hret hnm hown hZ hf hsz X hR hF
  have hq := d.2
  subst hq
  obtain ⟨T1, X1, e1, st1⟩ := getF X hx hZ hown (host := "") (Or.inl (hw _ w)) Via.refl rfl (hR.objs.2.2.2.1 j _ hk) (g := mkF m pc L (.ref a :: S)) rfl rfl (hb hby d.1)
  obtain ⟨T', locs', k', n', r, G', g1, g2, g3, g4, g5, g6, g7, g8⟩ := h hw p e s m args below meth c T1 locs L hx hby hml hret hnm hown hZ hf hsz X1 (by rw [e1]; exact hR) hF
  exact ⟨T', locs', k', n', r, G', g1, g2, g3, g4, g5, g6, g7, fun fs hr => st1 _ (g8 fs hr)⟩
theorem Runs.getA {ty : FieldType} {len : Int32} (d : DAt M pc (.getfield idx) 3 q) (hk : K.2.2[j]? = some (nm, ty, len)) (w : Jvm.Cond.fieldLink M.1.cls idx K.1 nm (aD ty) ∈ tables_1) (hq : j < qq) (h : Runs C M k n q P (.ref (a + 1 + j) :: S) (top, (a, qq, ob) :: H) Q) : Runs C M k n pc P (.ref a :: S) (top, (a, qq, ob) :: H) Q := by
  intro hw p e s m args below meth c T locs L hx hby hml hret hnm hown hZ hf hsz X hR hF
  have hqq := d.2
  subst hqq
  obtain ⟨T1, X1, e1, st1⟩ := getF X hx hZ hown (host := "") (Or.inl (hw _ w)) Via.refl rfl (hR.objs.2.2.2.2.1 j _ hk hq).1 (g := mkF m pc L (.ref a :: S)) rfl rfl (hb hby d.1)
  obtain ⟨T', locs', k', n', r, G', g1, g2, g3, g4, g5, g6, g7, g8⟩ := h hw p e s m args below meth c T1 locs L hx hby hml hret hnm hown hZ hf hsz X1 (by rw [e1]; exact hR) hF
  exact ⟨T', locs', k', n', r, G', g1, g2, g3, g4, g5, g6, g7, fun fs hr => st1 _ (g8 fs hr)⟩
theorem lw_of {Z : State} {a0 : Array Value} {meth : Method} (hw : ∀ d ∈ tables_1, d.before a0 Z = true) {C O n d own : String} (h : Jvm.Cond.lays C O n d ∈ tables_1 ∨ Jvm.Cond.laysFinal C O n d ∈ tables_1) (hc : Jvm.Cond.lays C O n d ∈ tables_1 ∨ (own = O ∧ meth.name = "<init>")) : (Jvm.Cond.lays C O n d).before a0 Z = true ∨ ((Jvm.Cond.laysFinal C O n d).before a0 Z = true ∧ own = O ∧ meth.name = "<init>") := by
  rcases hc with hc | hc
  · exact Or.inl (hw _ hc)
  · exact h.imp (hw _) (fun u => ⟨hw _ u, hc⟩)
/-- a field that may be written here: not final, or in a constructor of its class -/
def Mine (M : Bdy) (nm ds : String) : Prop := Jvm.Cond.lays K.1 K.1 nm ds ∈ tables_1 ∨ (M.1.cls = K.1 ∧ M.1.name = "<init>")
theorem Runs.putI {x : Int32} (d : DAt M pc (.putfield idx) 3 q) (w : Jvm.Cond.fieldLink M.1.cls idx K.1 nm "I" ∈ tables_1) (hk : K.2.1[j]? = some (nm, "I")) (hm : Mine M nm "I") (h : Runs C M k n q P S (top, (a, qq, sI ob j x) :: H) Q) : Runs C M k n pc P (.int x :: .ref a :: S) (top, (a, qq, ob) :: H) Q := by
  intro hw p e s m args below meth c T locs L hx hby hml hret hnm hown hZ hf hsz X hR hF
  have hqq := d.2
  subst hqq
  obtain ⟨T1, h1, X1, e1, W1, st1⟩ := putF X hx hZ hown (host := "") (Or.inl (hw _ w)) Via.refl rfl (hR.objs.2.2.2.1 j _ hk) hR.objs.2.2.1 (lw_of hw ((All.mem kS (List.mem_of_getElem? hk)).1) (hm.imp id (fun u => ⟨u.1, hnm.trans u.2⟩))) (hw _ kI) (ty := .int) (by decide) rfl rfl (g := mkF m pc L (.int x :: .ref a :: S)) rfl rfl (hb hby d.1)
  obtain ⟨T', locs', k', n', r, G', g1, g2, g3, g4, g5, g6, g7, g8⟩ := h hw p e s m args below meth c T1 _ L hx hby hml hret hnm hown hZ hf hsz X1 (by rw [e1]; exact hR.putI hw hk W1) (Fr.snoc X1 hF hR.objs.1)
  exact ⟨T', locs', k', n', r, G', g1, g2, g3, g4, g5, g6, g7, fun fs hr => st1 _ (g8 fs hr)⟩
theorem Runs.putZ {x y : Int32} (d : DAt M pc (.putfield idx) 3 q) (w : Jvm.Cond.fieldLink M.1.cls idx K.1 nm "Z" ∈ tables_1) (hk : K.2.1[j]? = some (nm, "Z")) (hm : Mine M nm "Z") (hy : nar .boolean x = y) (h : Runs C M k n q P S (top, (a, qq, sI ob j y) :: H) Q) : Runs C M k n pc P (.int x :: .ref a :: S) (top, (a, qq, ob) :: H) Q := by
  subst hy
  intro hw p e s m args below meth c T locs L hx hby hml hret hnm hown hZ hf hsz X hR hF
  have hqq := d.2
  subst hqq
  obtain ⟨T1, h1, X1, e1, W1, st1⟩ := putFN X hx hZ hown (hw _ w) Via.refl rfl (hR.objs.2.2.2.1 j _ hk) hR.objs.2.2.1 (lw_of hw ((All.mem kS (List.mem_of_getElem? hk)).1) (hm.imp id (fun u => ⟨u.1, hnm.trans u.2⟩))) (hw _ kI) (ty := .boolean) (v' := .int (nar .boolean x)) (by decide) rfl (fits_nar_bool _) (g := mkF m pc L (.int x :: .ref a :: S)) rfl rfl (hb hby d.1)
  obtain ⟨T', locs', k', n', r, G', g1, g2, g3, g4, g5, g6, g7, g8⟩ := h hw p e s m args below meth c T1 _ L hx hby hml hret hnm hown hZ hf hsz X1 (by rw [e1]; exact hR.putI hw hk W1) (Fr.snoc X1 hF hR.objs.1)
  exact ⟨T', locs', k', n', r, G', g1, g2, g3, g4, g5, g6, g7, fun fs hr => st1 _ (g8 fs hr)⟩
theorem Runs.ialoadA {i len : Int32} (d : DAt M pc .iaload 1 q) (hk : K.2.2[j]? = some (nm, .int, len)) (hq : j < qq) (hi : ¬ i < 0 ∧ i < len) (h : Runs C M k n q P (.int (gA ob j i) :: S) (top, (a, qq, ob) :: H) Q) : Runs C M k n pc P (.int i :: .ref (a + 1 + j) :: S) (top, (a, qq, ob) :: H) Q := by
  have hqq := d.2
  subst hqq
  refine Runs.pure d (fun p e s m args below meth c T locs L hw hx hown hZ hd hP hsz hR X => ⟨L, hP, hsz, fun t r => ?_⟩) h
  obtain ⟨cl, A, Sz, V⟩ := (hR.objs.2.2.2.2.1 j _ hk hq).2
  exact X.iaload hx (j := i) (v := .int (gA ob j i)) A.1 (State.isArrayOf_alike hZ.alike A.2.1) A.2.2 (inb_of Sz hi) (V i hi.1 hi.2) (g := mkF m pc L (.int i :: .ref (a + 1 + j) :: S)) rfl rfl hd _ r
theorem Runs.baloadA {i len : Int32} (d : DAt M pc .baload 1 q) (hk : K.2.2[j]? = some (nm, .boolean, len)) (hq : j < qq) (hi : ¬ i < 0 ∧ i < len) (h : Runs C M k n q P (.int (gA ob j i) :: S) (top, (a, qq, ob) :: H) Q) : Runs C M k n pc P (.int i :: .ref (a + 1 + j) :: S) (top, (a, qq, ob) :: H) Q := by
  have hqq := d.2
  subst hqq
  refine Runs.pure d (fun p e s m args below meth c T locs L hw hx hown hZ hd hP hsz hR X => ⟨L, hP, hsz, fun t r => ?_⟩) h
  obtain ⟨cl, A, Sz, V⟩ := (hR.objs.2.2.2.2.1 j _ hk hq).2
  exact X.baloadBooleans hx (j := i) (v := .int (gA ob j i)) A.1 (State.isArrayOf_alike hZ.alike A.2.1) A.2.2 (inb_of Sz hi) (V i hi.1 hi.2) (g := mkF m pc L (.int i :: .ref (a + 1 + j) :: S)) rfl rfl hd _ r
theorem Runs.laloadA {i len : Int32} (d : DAt M pc .laload 1 q) (hk : K.2.2[j]? = some (nm, .long, len)) (hq : j < qq) (hi : ¬ i < 0 ∧ i < len) (h : Runs C M k n q P (.long (gJ ob j i) :: S) (top, (a, qq, ob) :: H) Q) : Runs C M k n pc P (.int i :: .ref (a + 1 + j) :: S) (top, (a, qq, ob) :: H) Q := by
  have hqq := d.2
  subst hqq
  refine Runs.pure d (fun p e s m args below meth c T locs L hw hx hown hZ hd hP hsz hR X => ⟨L, hP, hsz, fun t r => ?_⟩) h
  obtain ⟨cl, A, Sz, V⟩ := (hR.objs.2.2.2.2.1 j _ hk hq).2
  exact X.laload hx (j := i) (v := .long (gJ ob j i)) A.1 (State.isArrayOf_alike hZ.alike A.2.1) A.2.2 (inb_of Sz hi) (V i hi.1 hi.2) (g := mkF m pc L (.int i :: .ref (a + 1 + j) :: S)) rfl rfl hd _ r
theorem Runs.iastoreA {i x len : Int32} (d : DAt M pc .iastore 1 q) (hk : K.2.2[j]? = some (nm, .int, len)) (hq : j < qq) (hi : ¬ i < 0 ∧ i < len) (h : Runs C M k n q P S (top, (a, qq, sA ob j i x) :: H) Q) : Runs C M k n pc P (.int x :: .int i :: .ref (a + 1 + j) :: S) (top, (a, qq, ob) :: H) Q := by
  intro hw p e s m args below meth c T locs L hx hby hml hret hnm hown hZ hf hsz X hR hF
  have hqq := d.2
  subst hqq
  obtain ⟨cl, A, Sz, V⟩ := (hR.objs.2.2.2.2.1 j _ hk hq).2
  obtain ⟨T1, h1, X1, e1, W1, st1⟩ := stI X hx hZ rfl A (j := i) (x := x) (inb_of Sz hi) (g := mkF m pc L (.int x :: .int i :: .ref (a + 1 + j) :: S)) rfl rfl (hb hby d.1)
  obtain ⟨T', locs', k', n', r, G', g1, g2, g3, g4, g5, g6, g7, g8⟩ := h hw p e s m args below meth c T1 _ L hx hby hml hret hnm hown hZ hf hsz X1 (by rw [e1]; exact hR.putA hk hq (by simp) hi W1) (Fr.snoc X1 hF (by have := hR.objs.1; omega))
  exact ⟨T', locs', k', n', r, G', g1, g2, g3, g4, g5, g6, g7, fun fs hr => st1 _ (g8 fs hr)⟩
theorem Runs.bastoreA {i x len : Int32} (d : DAt M pc .bastore 1 q) (hk : K.2.2[j]? = some (nm, .boolean, len)) (hq : j < qq) (hi : ¬ i < 0 ∧ i < len) {y : Int32} (hy : nar .boolean x = y) (h : Runs C M k n q P S (top, (a, qq, sA ob j i y) :: H) Q) : Runs C M k n pc P (.int x :: .int i :: .ref (a + 1 + j) :: S) (top, (a, qq, ob) :: H) Q := by
  subst hy
  intro hw p e s m args below meth c T locs L hx hby hml hret hnm hown hZ hf hsz X hR hF
  have hqq := d.2
  subst hqq
  obtain ⟨cl, A, Sz, V⟩ := (hR.objs.2.2.2.2.1 j _ hk hq).2
  obtain ⟨T1, h1, X1, e1, W1, st1⟩ := stZ X hx hZ rfl A (j := i) (x := x) (inb_of Sz hi) (g := mkF m pc L (.int x :: .int i :: .ref (a + 1 + j) :: S)) rfl rfl (hb hby d.1)
  obtain ⟨T', locs', k', n', r, G', g1, g2, g3, g4, g5, g6, g7, g8⟩ := h hw p e s m args below meth c T1 _ L hx hby hml hret hnm hown hZ hf hsz X1 (by rw [e1]; exact hR.putA hk hq (by simp) hi W1) (Fr.snoc X1 hF (by have := hR.objs.1; omega))
  exact ⟨T', locs', k', n', r, G', g1, g2, g3, g4, g5, g6, g7, fun fs hr => st1 _ (g8 fs hr)⟩
theorem Runs.lastoreA {i len : Int32} {x : Int64} (d : DAt M pc .lastore 1 q) (hk : K.2.2[j]? = some (nm, .long, len)) (hq : j < qq) (hi : ¬ i < 0 ∧ i < len) (h : Runs C M k n q P S (top, (a, qq, sJ ob j i x) :: H) Q) : Runs C M k n pc P (.long x :: .int i :: .ref (a + 1 + j) :: S) (top, (a, qq, ob) :: H) Q := by
  intro hw p e s m args below meth c T locs L hx hby hml hret hnm hown hZ hf hsz X hR hF
  have hqq := d.2
  subst hqq
  obtain ⟨cl, A, Sz, V⟩ := (hR.objs.2.2.2.2.1 j _ hk hq).2
  obtain ⟨T1, h1, X1, e1, W1, st1⟩ := stJ X hx hZ rfl A (j := i) (x := x) (inb_of Sz hi) (g := mkF m pc L (.long x :: .int i :: .ref (a + 1 + j) :: S)) rfl rfl (hb hby d.1)
  obtain ⟨T', locs', k', n', r, G', g1, g2, g3, g4, g5, g6, g7, g8⟩ := h hw p e s m args below meth c T1 _ L hx hby hml hret hnm hown hZ hf hsz X1 (by rw [e1]; exact hR.putJ hk hq rfl hi W1) (Fr.snoc X1 hF (by have := hR.objs.1; omega))
  exact ⟨T', locs', k', n', r, G', g1, g2, g3, g4, g5, g6, g7, fun fs hr => st1 _ (g8 fs hr)⟩
/-- the script: an array that stood before the law began -/
def ScrF (C : Ctx) (sa : Nat) (z : Int32) (f : Int32 → Int32) : Prop := ∃ cl : Cell, Scr C.2.1 C.2.1.heap sa cl z ∧ f = atv cl
theorem Runs.lenS {sa : Nat} {z : Int32} {f : Int32 → Int32} (hs : ScrF C sa z f) (d : DAt M pc .arraylength 1 q) (h : Runs C M k n q P (.int z :: S) G Q) : Runs C M k n pc P (.ref sa :: S) G Q := by
  have hqq := d.2
  subst hqq
  refine Runs.pure d (fun p e s m args below meth c T locs L hw hx hown hZ hd hP hsz hR X => ⟨L, hP, hsz, fun t r => ?_⟩) h
  obtain ⟨cl, F, -⟩ := hs
  obtain ⟨A, Sz, N, V⟩ := F.ext hR.2.1.2
  exact X.arraylength hx A.1 (State.isArrayOf_alike hZ.alike A.2.1) (g := mkF m pc L (.ref sa :: S)) rfl rfl hd _ (by rw [len_of Sz N]; exact r)
theorem Runs.ialoadS {sa : Nat} {z i : Int32} {f : Int32 → Int32} (hs : ScrF C sa z f) (d : DAt M pc .iaload 1 q) (hi : ¬ i < 0 ∧ i < z) (h : Runs C M k n q P (.int (f i) :: S) G Q) : Runs C M k n pc P (.int i :: .ref sa :: S) G Q := by
  have hqq := d.2
  subst hqq
  refine Runs.pure d (fun p e s m args below meth c T locs L hw hx hown hZ hd hP hsz hR X => ⟨L, hP, hsz, fun t r => ?_⟩) h
  obtain ⟨cl, F, rfl⟩ := hs
  obtain ⟨A, Sz, N, V⟩ := F.ext hR.2.1.2
  exact X.iaload hx (j := i) (v := .int (atv cl i)) A.1 (State.isArrayOf_alike hZ.alike A.2.1) A.2.2 (inb_of Sz hi) (V i (inb_of Sz hi)) (g := mkF m pc L (.int i :: .ref sa :: S)) rfl rfl hd _ r
/- leaving -/
theorem Runs.retI {v : Int32} (d : DAt M pc .ireturn 1 q) (hret : M.2.2.2.1 = some .int) (hk : k ≤ M.2.2.2.2.cells ∧ n ≤ M.2.2.2.2.slots) (hQ : Q (some (.int v)) G) : Runs C M k n pc P (.int v :: S) G Q := by
  intro hw p e s m args below meth c T locs L hx hby hml hr0 hnm hown hZ hf hsz X hR hF
  exact ⟨T, locs, k, n, _, G, X, hk.1, hk.2, hR, hF, hQ, (fun u => by rw [hret] at u; cases u), fun fs hr => Jvm.RoadKit.retI X hx (hr0.trans hret) (hb hby d.1) hr⟩
theorem Runs.retZ {v : Int32} (d : DAt M pc .ireturn 1 q) (hret : M.2.2.2.1 = some .boolean) (hk : k ≤ M.2.2.2.2.cells ∧ n ≤ M.2.2.2.2.slots) {y : Int32} (hy : nar .boolean v = y) (hQ : Q (some (.int y)) G) : Runs C M k n pc P (.int v :: S) G Q := by
  subst hy
  intro hw p e s m args below meth c T locs L hx hby hml hr0 hnm hown hZ hf hsz X hR hF
  exact ⟨T, locs, k, n, _, G, X, hk.1, hk.2, hR, hF, hQ, (fun u => by rw [hret] at u; cases u), fun fs hr => retN X hx (t := .boolean) (hr0.trans hret) (by simp) (hb hby d.1) hr⟩
theorem Runs.retJ {v : Int64} (d : DAt M pc .lreturn 1 q) (hret : M.2.2.2.1 = some .long) (hk : k ≤ M.2.2.2.2.cells ∧ n ≤ M.2.2.2.2.slots) (hQ : Q (some (.long v)) G) : Runs C M k n pc P (.long v :: []) G Q := by
  intro hw p e s m args below meth c T locs L hx hby hml hr0 hnm hown hZ hf hsz X hR hF
  exact ⟨T, locs, k, n, _, G, X, hk.1, hk.2, hR, hF, hQ, (fun u => by rw [hret] at u; cases u), fun fs hr => X.lreturnOut hx (hr0.trans hret) (hb hby d.1) hr⟩
theorem Runs.retV (d : DAt M pc .return_ 1 q) (hret : M.2.2.2.1 = none) (hk : k ≤ M.2.2.2.2.cells ∧ n ≤ M.2.2.2.2.slots) (hQ : Q none G) : Runs C M k n pc P [] G Q := by
  intro hw p e s m args below meth c T locs L hx hby hml hr0 hnm hown hZ hf hsz X hR hF
  exact ⟨T, locs, k, n, _, G, X, hk.1, hk.2, hR, hF, hQ, (fun _ => rfl), fun fs hr => X.returnOut hx (hr0.trans hret) (hb hby d.1) hr⟩
/- a new object, and the arrays that its constructor makes -/
theorem Runs.newK (d : DAt M pc (.new idx) 3 q) (w : Jvm.Cond.classLink M.1.cls idx K.1 ∈ tables_1) (hc : k + 1 ≤ M.2.2.2.2.cells ∧ n + kN ≤ M.2.2.2.2.slots) {k' n' : Nat} (hk' : k + 1 = k') (hn' : n + kN = n') {H : List (Nat × Nat × Rec)} (hd : ∀ x ∈ H, x.1 + x.2.1 < top) (h : Runs C M k' n' q P (.ref top :: S) (top + 1, (top, 0, zrec) :: H) Q) : Runs C M k n pc P S (top, H) Q := by
  subst hk' hn'
  intro hw p e s m args below meth c T locs L hx hby hml hr0 hnm hown hZ hf hsz X hR hF
  have hqq := d.2
  subst hqq
  obtain ⟨T2, X2, s2, E2, A2, D2, st2⟩ := new1 X hx hZ hown (hw _ w) (hw _ kI) (hw _ kZ) (g := mkF m pc L S) rfl (hb hby d.1) hc.1 hc.2
  have hs : T.heap.size = top := hR.1
  rw [hs] at A2 D2 st2 s2
  have hR2 : Rep C.2.1 C.2.2.1 T2.heap (top + 1, (top, 0, zrec) :: H) := by
    refine ⟨s2, hR.2.1.ext E2, fun x hx' => ?_, ?_⟩
    · rcases List.mem_cons.mp hx' with rfl | hx'
      · refine ⟨?_, by simp, A2, fun k nd hk => ?_, fun k t hk hq => by simp at hq, fun k t hk hq => ?_⟩
        · have := hR.2.1.2.1; rw [hR.2.1.1] at this; simp only; omega
        · rcases (All.mem kS (List.mem_of_getElem? hk)).2 with e | e
          · have := D2 (laidS hw hk) (ty := .int) (by rw [e]; decide); exact this
          · have := D2 (laidS hw hk) (ty := .boolean) (by rw [e]; decide); exact this
        · have := D2 (laidA hw hk) (pfA hk); exact this
      · obtain ⟨p1, p2, p3⟩ := hR.2.2.1 x hx'
        exact ⟨p1, by simp only at p2 ⊢; omega, p3.ext E2⟩
    · exact List.pairwise_cons.mpr ⟨fun y hy => Or.inr (hd y hy), hR.2.2.2⟩
  obtain ⟨T', locs', k', n', r, G', g1, g2, g3, g4, g5, g6, g7, g8⟩ := h hw p e s m args below meth c T2 _ L hx hby hml hr0 hnm hown hZ hf hsz X2 hR2 hF
  exact ⟨T', locs', k', n', r, G', g1, g2, g3, g4, g5, g6, g7, fun fs hr => st2 _ (g8 fs hr)⟩
/-- newarray and the putfield behind it: the next array of an object that is being made -/
theorem Runs.newArr {aty : ArrayType} {ty : FieldType} {len : Int32} {q1 : Nat} (d : DAt M pc (.newarray aty) 2 q1) (d' : DAt M q1 (.putfield idx) 3 q) (hk : K.2.2[j]? = some (nm, ty, len)) (w : Jvm.Cond.fieldLink M.1.cls idx K.1 nm (aD ty) ∈ tables_1) (ht : newarray.typeOf aty = ty) (wa : Jvm.Cond.arrayClass ty ∈ tables_1) (hm : Mine M nm (aD ty))
    (htop : top = a + 1 + j) (hlen : ¬ len < 0 ∧ len.toNatClampNeg * 8 ≤ 536870912) (hc : k + 1 ≤ M.2.2.2.2.cells ∧ n + len.toNatClampNeg ≤ M.2.2.2.2.slots) (hz : (∀ i, ob.2.1 j i = 0) ∧ (∀ i, ob.2.2 j i = 0)) {j' top' k' n' : Nat} (hj' : j + 1 = j') (ht' : top + 1 = top') (hk' : k + 1 = k') (hn' : n + len.toNatClampNeg = n')
    (h : Runs C M k' n' q P S (top', (a, j', ob) :: H) Q) : Runs C M k n pc P (.int len :: .ref a :: S) (top, (a, j, ob) :: H) Q := by
  subst hj' ht' hk' hn'
  intro hw p e s m args below meth c T locs L hx hby hml hr0 hnm hown hZ hf hsz X hR hF
  have hqq := d.2
  have hqq' := d'.2
  subst hqq hqq' ht
  obtain ⟨T1, cA, X1, s1, E1, A1, st1⟩ := newArr1 X hx hZ (hw _ wa) (g := mkF m pc L (.int len :: .ref a :: S)) rfl (hb hby d.1) rfl hlen.1 hlen.2 hc.1 hc.2
  have hs : T.heap.size = top := hR.1
  rw [hs] at A1 st1 s1
  have O1 := hR.objs.2.2.ext E1
  obtain ⟨T2, h2, X2, e2, W2, st2⟩ := putF X1 hx hZ hown (host := "") (Or.inl (hw _ w)) Via.refl rfl (O1.2.2.2 j _ hk (Nat.le_refl _)) O1.1 (lw_of hw ((All.mem kA (List.mem_of_getElem? hk)).1) (hm.imp id (fun u => ⟨u.1, hnm.trans u.2⟩))) (hw _ kI) (ty := .array (newarray.typeOf aty)) (pfA hk) rfl rfl (g := mkF m (pc + 2) L (.ref top :: .ref a :: S)) rfl rfl (hb hby d'.1)
  have hts : (newarray.typeOf aty = .int ∨ newarray.typeOf aty = .boolean ∨ newarray.typeOf aty = .long) := (All.mem kA (List.mem_of_getElem? hk)).2.1
  have hA := arr_new A1 hts hz
  have hR2 : Rep C.2.1 C.2.2.1 T2.heap (top + 1, (a, j + 1, ob) :: H) := by rw [e2]; exact hR.addA hw E1 s1 htop hk hA W2
  obtain ⟨T', locs', k', n', r, G', g1, g2, g3, g4, g5, g6, g7, g8⟩ := h hw p e s m args below meth c T2 _ L hx hby hml hr0 hnm hown hZ hf hsz X2 hR2 (Fr.snoc X2 hF hR.objs.1)
  exact ⟨T', locs', k', n', r, G', g1, g2, g3, g4, g5, g6, g7, fun fs hr => st1 _ (st2 _ (g8 fs hr))⟩
theorem Runs.initO {W : Nat} (d : DAt M pc (.invokespecial idx) 3 q) (w1 : Jvm.Cond.methodLink M.1.cls idx Lib.objectInit ∈ tables_1) (w2 : Jvm.Cond.instanceMethod Lib.objectInit ∈ tables_1) (w3 : Jvm.Cond.code Lib.objectInit ⟨#[0xb1]⟩ 1 none ∈ tables_1) (hW : (S.map fun v => v.category).sum = W) (hc : 1 ≤ M.2.2.2.2.frames ∧ W + 12 ≤ M.2.2.2.2.locals) (h : Runs C M k n q P S G Q) : Runs C M k n pc P (.ref a :: S) G Q := by
  intro hw p e s m args below meth c T locs L hx hby hml hr0 hnm hown hZ hf hsz X hR hF
  have hqq := d.2
  subst hqq
  obtain ⟨T1, X1, e1, st1⟩ := Jvm.RoadKit.initO X hx hZ hown (hw _ w1) (hw _ w2) (hw _ w3) rfl (g := mkF m pc L (.ref a :: S)) rfl (by rw [hml]; exact hsz) rfl (hb hby d.1) hc.1 (W := W) (by show 2 * 0 + _ ≤ _; omega) hc.2
  obtain ⟨T', locs', k', n', r, G', g1, g2, g3, g4, g5, g6, g7, g8⟩ := h hw p e s m args below meth c T1 _ L hx hby hml hr0 hnm hown hZ hf hsz X1 (by rw [e1]; exact hR) hF
  exact ⟨T', locs', k', n', r, G', g1, g2, g3, g4, g5, g6, g7, fun fs hr => st1 _ (g8 fs hr)⟩
end Heap
/- a body's contract, and the calls that are paid by one -/
def Pays (C : Ctx) (N : Bdy) (as : List Value) (G : AH) (Q : Option Value → AH → Prop) : Prop :=
  Ok C → ∀ h0 : Heap, Rep C.2.1 C.2.2.1 h0 G → ∀ ws : List Jvm.Cond, MetFree C.1 N.1 (head1 (Jvm.Cond.code N.1 N.2.1 N.2.2.1 N.2.2.2.1 :: ws) N.2.2.2.2) (fun a U => a = as.toArray ∧ C.2.1.Warmed39 U.vm ∧ U.heap = h0) (fun _ _ _ _ _ => True)
    (fun _ U o U' => ∃ v L, o = .returned v ∧ (Fr C.2.2.1 L ∧ ∃ G', Rep C.2.1 C.2.2.1 U'.heap G' ∧ Q v G') ∧ FrameEnd U o U' L N.2.2.2.2.cells N.2.2.2.2.slots)
def lay : List Value → List Slot
  | [] => []
  | v :: l => if v.category = 2 then .val v :: .second :: lay l else .val v :: lay l
theorem lay_foldl (l : List Value) : ∀ acc : Array Slot, (l.foldl (fun acc v => if v.category = 2 then (acc.push (.val v)).push .second else acc.push (.val v)) acc).toList = acc.toList ++ lay l := by
  induction l with
  | nil => intro acc; simp [lay]
  | cons v l ih =>
    intro acc
    rw [List.foldl_cons, ih]
    by_cases h : v.category = 2 <;> simp [lay, h]
theorem args_lay (as : List Value) (ml : Nat) : argsToLocals as.toArray ml = (lay as ++ List.replicate (ml - (lay as).length) Slot.unset).toArray := by
  have h := lay_foldl as #[]
  apply Array.ext'
  simp only [argsToLocals, Array.toList_append, List.toList_toArray] at *
  rw [show (as.toArray.foldl (init := #[]) fun acc v => if v.category = 2 then (acc.push (Slot.val v)).push .second else acc.push (.val v)).toList = lay as by simpa using h]
  congr 1
  rw [← Array.length_toList, show (as.toArray.foldl (init := #[]) fun acc v => if v.category = 2 then (acc.push (Slot.val v)).push .second else acc.push (.val v)).toList = lay as by simpa using h]
  simp
def WFL (l : List Slot) : Prop := (∀ i : Nat, l[i]? = some .second → ∃ (j : Nat) (v : Value), i = j + 1 ∧ l[j]? = some (.val v) ∧ v.category = 2) ∧ (∀ (i : Nat) (v : Value), l[i]? = some (.val v) → v.category = 2 → l[i + 1]? = some .second)
theorem WFL.unset (n : Nat) : WFL (List.replicate n Slot.unset) := by
  refine ⟨fun i h => ?_, fun i v h => ?_⟩ <;> (rw [List.getElem?_replicate] at h; split at h <;> cases h)
theorem WFL.one {l : List Slot} {v : Value} (h : WFL l) (hv : v.category ≠ 2) : WFL (.val v :: l) := by
  refine ⟨fun i hi => ?_, fun i w hi hw => ?_⟩
  · cases i with
    | zero => simp at hi
    | succ i =>
      obtain ⟨j, w, e1, e2, e3⟩ := h.1 i (by simpa using hi)
      exact ⟨j + 1, w, by omega, by simpa using e2, e3⟩
  · cases i with
    | zero => simp at hi; subst hi; exact absurd hw hv
    | succ i => have := h.2 i w (by simpa using hi) hw; simpa using this
theorem WFL.two {l : List Slot} {v : Value} (h : WFL l) (hv : v.category = 2) : WFL (.val v :: .second :: l) := by
  refine ⟨fun i hi => ?_, fun i w hi hw => ?_⟩
  · match i, hi with
    | 0, hi => simp at hi
    | 1, hi => exact ⟨0, v, rfl, by simp, hv⟩
    | i + 2, hi =>
      obtain ⟨j, w, e1, e2, e3⟩ := h.1 i (by simpa using hi)
      exact ⟨j + 2, w, by omega, by simpa using e2, e3⟩
  · match i, hi with
    | 0, hi => simp
    | 1, hi => simp at hi
    | i + 2, hi => have := h.2 i w (by simpa using hi) hw; simpa using this
theorem WFL.lay (as : List Value) (n : Nat) : WFL (lay as ++ List.replicate n Slot.unset) := by
  induction as with
  | nil => exact WFL.unset n
  | cons v l ih =>
    by_cases h : v.category = 2
    · simpa [Jvm.Pilot.@@N@@.lay, h] using ih.two h
    · simpa [Jvm.Pilot.@@N@@.lay, h] using ih.one h
def pforget : List Bool → Pat → Pat
  | [], _ => []
  | _, [] => []
  | true :: ms, x :: l => x :: pforget ms l
  | false :: ms, _ :: l => none :: pforget ms l
theorem pforget_get : ∀ (ms : List Bool) (P : Pat) (i : Nat) (s : Slot), pget (pforget ms P) i = some s → pget P i = some s
  | [], _, i, s, h => by simp [pforget, pget] at h
  | _ :: _, [], i, s, h => by simp [pforget, pget] at h
  | true :: ms, x :: l, 0, s, h => h
  | true :: ms, x :: l, i + 1, s, h => pforget_get ms l i s h
  | false :: ms, x :: l, 0, s, h => by simp [pforget, pget] at h
  | false :: ms, x :: l, i + 1, s, h => pforget_get ms l i s h
section Calls
variable {C : Ctx} {M N : Bdy} {k n pc q : Nat} {P P' : Pat} {S S' : List Value} {G G1 : AH} {Q : Option Value → AH → Prop} {top : Nat} {a : Nat} {qq j idx W : Nat} {ob : Rec} {H : List (Nat × Nat × Rec)} {as : List Value}
theorem Runs.forget (ms : List Bool) (hP : pforget ms P = P') (h : Runs C M k n pc P' S G Q) : Runs C M k n pc P S G Q := by
  intro hw p e s m args below meth c T locs L hx hby hml hret hnm hown hZ hf
  subst hP
  exact h hw p e s m args below meth c T locs L hx hby hml hret hnm hown hZ ⟨fun i s hi => hf.1 i s (pforget_get _ _ i s hi), hf.2⟩
theorem Pays.of (hpl : plainName N.1.cls = true) (hml : (lay as).length ≤ N.2.2.1) (x : Nat) (hP : (lay as).map some ++ List.replicate x none = P) (h : Runs C N 0 0 0 P [] G Q) : Pays C N as G Q := by
  intro hw h0 hR ws
  refine MetFree.of_bodySF (plainFor_of_name hpl) hisR ?_
  intro p e s m args below meth c s₁ Bd hml0 hp hK
  obtain ⟨rfl, hZ, hh⟩ := hp
  have X0 : Stand p C.1 e N.2.2.2.2 s m as.toArray below meth c s₁ [] 0 0 := Stand.of_body Bd
  have e0 : s₁.heap = h0 := by rw [← hh, Bd.state]; rfl
  obtain ⟨L, hL⟩ : ∃ L : Array Slot, L = (lay as ++ List.replicate (N.2.2.1 - (lay as).length) Slot.unset).toArray := ⟨_, rfl⟩
  have hfit : Fits P L := by
    subst hP hL
    refine ⟨fun i s hi => ?_, ?_⟩
    · rw [pget_eq] at hi
      cases hq : (lay as)[i]? with
      | none =>
        rw [List.getElem?_append_right (by simpa using hq), List.getElem?_replicate] at hi
        split at hi <;> simp at hi
      | some y =>
        have hlt := (List.getElem?_eq_some_iff.mp hq).1
        rw [List.getElem?_append_left (by simpa using hlt), List.getElem?_map, hq] at hi
        have this : y = s := by simpa using hi
        simp only [List.getElem?_toArray]
        rw [List.getElem?_append_left hlt, hq, this]
    · have := WFL.lay as (N.2.2.1 - (lay as).length)
      refine ⟨fun i hi => ?_, fun i v hi hv => ?_⟩
      · rw [List.getElem?_toArray] at hi
        obtain ⟨j, v, e1, e2, e3⟩ := this.1 i hi
        exact ⟨j, v, e1, by rw [List.getElem?_toArray]; exact e2, e3⟩
      · rw [List.getElem?_toArray] at hi ⊢
        exact this.2 i v hi hv
  obtain ⟨T', locs', k', n', r, G', g1, g2, g3, g4, g5, g6, g7, g8⟩ := h hw p e s m as.toArray below meth c s₁ [] L Bd.exec Bd.bytes hml0 Bd.returns (name_of_methodNamed Bd.named Bd.method).1 (findClass_of_methodNamed Bd.named) hZ hfit (by rw [hL]; simp; omega) X0 (by rw [e0]; exact hR) (Fr.nil _)
  obtain ⟨fs, hr, hrun, hended, hW, hsame⟩ := g1.leave (v := r) (fun u => g7 (by rw [← Bd.returns]; exact u))
  refine ⟨_, _, ?_, hrun, hended, _, _, rfl, ⟨g5, G', ?_, g6⟩, ⟨_, rfl⟩, hW, hsame.mono g2 g3⟩
  · have ef : entryFrame m as.toArray N.2.2.1 = mkF m 0 L [] := by
      rw [hL, ← args_lay]; rfl
    rw [ef]; exact g8 fs hr
  · exact g4
abbrev room_al (M N : Bdy) (W k n : Nat) : Prop := N.2.2.2.2.frames + 1 ≤ M.2.2.2.2.frames ∧ W + (N.2.2.1 + 11) + N.2.2.2.2.locals ≤ M.2.2.2.2.locals ∧ k + N.2.2.2.2.cells ≤ M.2.2.2.2.cells ∧ n + N.2.2.2.2.slots ≤ M.2.2.2.2.slots
abbrev room_ok (M N : Bdy) (W : Nat) : Prop := N.2.2.2.2.frames + 1 ≤ M.2.2.2.2.frames ∧ W + (N.2.2.1 + 11) + N.2.2.2.2.locals ≤ M.2.2.2.2.locals ∧ N.2.2.2.2.cells = 0 ∧ N.2.2.2.2.slots = 0
abbrev full_ok (M : Bdy) (k n : Nat) : Prop := k ≤ M.2.2.2.2.cells ∧ n ≤ M.2.2.2.2.slots
theorem room_ok.al (h : room_ok M N W) (f : full_ok M k n) : room_al M N W k n := ⟨h.1, h.2.1, by rw [h.2.2.1]; exact f.1, by rw [h.2.2.2]; exact f.2⟩
abbrev code_w (N : Bdy) : Prop := Jvm.Cond.code N.1 N.2.1 N.2.2.1 N.2.2.2.1 ∈ tables_1 ∧ Jvm.Cond.initialized N.1.cls ∈ tables_1 ∧ (N.1.cls ≠ "java/lang/invoke/MethodHandle" ∧ N.1.cls ≠ "java/lang/invoke/VarHandle")
def arity (N : Bdy) (na : Nat) : Prop := ∃ ps r, parseMethodDescriptor N.1.desc = some ⟨ps, r⟩ ∧ na = ps.length
theorem arity.len {na : Nat} (h : arity N na) (e : as.length = na) : ∀ sig, parseMethodDescriptor N.1.desc = some sig → as.length = sig.parameters.length := by
  obtain ⟨ps, r, h1, h2⟩ := h
  exact lenOf h1 (e.trans h2)
theorem after_call {v : Option Value} {p : Program} {e : Env} {s : State} {m : MethodId} {args : Array Value} {below : List Frame} {meth : Method} {c : Code} {T T0 : State} {locs : List Loc} {L : Array Slot} {QN : Option Value → AH → Prop} {Lc : List Loc}
    (hw : Ok C) (hx : p.tables.exec = Jvm.exec) (hby : c.code = M.2.1) (hml : c.maxLocals = M.2.2.1) (hret : meth.sig.returnType = M.2.2.2.1) (hnm : meth.name = M.1.name) (hown : s.vm.findClass M.1.cls = some m.cls) (hZ : C.2.1.Warmed39 s.vm) (hf : Fits P L) (hsz : L.size = M.2.2.1) (hF : Fr C.2.2.1 locs)
    (X : Stand p C.1 e M.2.2.2.2 s m args below meth c T (locs ++ Lc) (k + N.2.2.2.2.cells) (n + N.2.2.2.2.slots)) (hQ : Fr C.2.2.1 Lc ∧ ∃ G', Rep C.2.1 C.2.2.1 T.heap G' ∧ QN v G')
    (h : ∀ v G', QN v G' → Runs C M (k + N.2.2.2.2.cells) (n + N.2.2.2.2.slots) (pc + 3) P (v.toList ++ S') G' Q)
    (st : ∀ t, Steps p.tables e below (T.setTop (mkF m (pc + 3) L (v.toList ++ S'))) t → Steps p.tables e below (T0.setTop (mkF m pc L S)) t) :
    ∃ (T' : State) (locs' : List Loc) (k' n' : Nat) (r : Option Value) (G' : AH), Stand p C.1 e M.2.2.2.2 s m args below meth c T' locs' k' n' ∧ k' ≤ M.2.2.2.2.cells ∧ n' ≤ M.2.2.2.2.slots ∧ Rep C.2.1 C.2.2.1 T'.heap G' ∧ Fr C.2.2.1 locs' ∧ Q r G' ∧
      (M.2.2.2.1 = none → r = none) ∧
      ∀ fs : List Frame, (∀ (f : JFrame) (acts : List Action), f.method = m → f.locked = none → f.entered = [] → (doReturn e (T'.setTop f) acts r).1 = T'.setFrames fs) → Steps p.tables e below (T0.setTop (mkF m pc L S)) (T'.setFrames fs) := by
  obtain ⟨f1, G', f2, f3⟩ := hQ
  obtain ⟨T', locs', k', n', r, G'', g1, g2, g3, g4, g5, g6, g7, g8⟩ := h v G' f3 hw p e s m args below meth c T _ L hx hby hml hret hnm hown hZ hf hsz X f2 (Fr.app hF f1)
  exact ⟨T', locs', k', n', r, G'', g1, g2, g3, g4, g5, g6, g7, fun fs hr => st _ (g8 fs hr)⟩
theorem Runs.callS {QN : Option Value → AH → Prop} (d : DAt M pc (.invokestatic idx) 3 q) (wl : Jvm.Cond.methodLink M.1.cls idx N.1 ∈ tables_1) (wt : Jvm.Cond.static N.1 ∈ tables_1) (wc : code_w N) (ar : arity N as.length) (hr0 : room_ok M N W) (hfull : full_ok M k n) (hS : S = as.reverse ++ S') (hW : (S'.map fun v => v.category).sum = W)
    (hN : Pays C N as G QN) (h : ∀ v G', QN v G' → Runs C M k n q P (v.toList ++ S') G' Q) : Runs C M k n pc P S G Q := by
  intro hw p e s m args below meth c T locs L hx hby hml hret hnm hown hZ hf hsz X hR hF
  have hq := d.2
  subst hq hS
  have hr := hr0.al hfull
  obtain ⟨_, _, ⟨T1, L1, k1, n1⟩, -, X1, ⟨Lc, hQ, l1, y1, z1⟩, st⟩ := Jvm.LawKit.callS X hx (y := N.1) hown (mvT hZ (hw _ wl)) (mvT hZ (hw _ wt)) (mvT hZ (hw _ wc.2.1)) (mvT hZ (hw _ wc.1)) wc.2.2 (backOf (W := W) (Q := fun v h L => Fr C.2.2.1 L ∧ ∃ G', Rep C.2.1 C.2.2.1 h G' ∧ QN v G') (hN hw T.heap hR []) hZ (hw _ wc.1) (hw _ wc.2.1) hr.1 hr.2.1) (g := mkF m pc L (as.reverse ++ S')) rfl (by rw [hml]; exact hsz) (argsL := as) (rest := S') (ar.len rfl) rfl (by show 2 * 0 + _ ≤ _; omega) (hb hby d.1) (fun _ _ => ⟨rfl, rfl, hr.2.2.1, hr.2.2.2⟩)
  dsimp only [Pt.U, Pt.locs, Pt.cells, Pt.slots] at X1 l1 y1 z1 st hQ
  subst l1 y1 z1
  exact after_call hw hx hby hml hret hnm hown hZ hf hsz hF X1 hQ (by rw [hr0.2.2.1, hr0.2.2.2]; exact h) (fun t u => st t u)
theorem Runs.callV {QN : Option Value → AH → Prop} (d : DAt M pc (.invokevirtual idx) 3 q) (wl : Jvm.Cond.methodLink M.1.cls idx N.1 ∈ tables_1) (wd : Jvm.Cond.declares N.1 ∈ tables_1) (wi : Jvm.Cond.instanceMethod N.1 ∈ tables_1) (ws : Jvm.Cond.selects K.1 N.1 N.1 ∈ tables_1) (wc : code_w N) (ar : arity N as.length) (hr0 : room_ok M N W) (hfull : full_ok M k n) (hS : S = as.reverse ++ .ref a :: S') (hW : (S'.map fun v => v.category).sum = W)
    (hN : Pays C N (.ref a :: as) (top, (a, qq, ob) :: H) QN) (h : ∀ v G', QN v G' → Runs C M k n q P (v.toList ++ S') G' Q) : Runs C M k n pc P S (top, (a, qq, ob) :: H) Q := by
  intro hw p e s m args below meth c T locs L hx hby hml hret hnm hown hZ hf hsz X hR hF
  have hq := d.2
  subst hq hS
  have hr := hr0.al hfull
  obtain ⟨cB, kB, u1, -, u3⟩ := isOf hZ rfl hR.objs.2.2.1
  obtain ⟨_, _, ⟨T1, L1, k1, n1⟩, -, X1, ⟨Lc, hQ, l1, y1, z1⟩, st⟩ := X.virtualBack hx (y := N.1) (z := N.1) hown (mvT hZ (hw _ wl)) (mvT hZ (hw _ wd)) (notFace_of_selects (args := #[]) (mvT hZ (hw _ ws))) (mvT hZ (hw _ ws)) (mvT hZ (hw _ wi)) wc.2.2 (backOf (W := W) (Q := fun v h L => Fr C.2.2.1 L ∧ ∃ G', Rep C.2.1 C.2.2.1 h G' ∧ QN v G') (hN hw T.heap hR []) hZ (hw _ wc.1) (hw _ wc.2.1) hr.1 hr.2.1) u1 u3 (g := mkF m pc L (as.reverse ++ .ref a :: S')) rfl (by rw [hml]; exact hsz) (Steps.refl _) (argsL := as) (rest := S') (ar.len rfl) rfl (by show 2 * 0 + _ ≤ _; omega) (hb hby d.1) (fun _ _ => ⟨rfl, rfl, hr.2.2.1, hr.2.2.2⟩)
  dsimp only [Pt.U, Pt.locs, Pt.cells, Pt.slots] at X1 l1 y1 z1 st hQ
  subst l1 y1 z1
  exact after_call hw hx hby hml hret hnm hown hZ hf hsz hF X1 hQ (by rw [hr0.2.2.1, hr0.2.2.2]; exact h) (fun t u => st.trans u)
theorem Runs.callP {QN : Option Value → AH → Prop} (d : DAt M pc (.invokevirtual idx) 3 q) (wl : Jvm.Cond.methodLink M.1.cls idx N.1 ∈ tables_1) (wi : Jvm.Cond.instanceMethod N.1 ∈ tables_1) (wp : Jvm.Cond.privateMethod N.1 ∈ tables_1) (wK : N.1.cls = K.1) (wc : code_w N) (ar : arity N as.length) (hr0 : room_ok M N W) (hfull : full_ok M k n) (hS : S = as.reverse ++ .ref a :: S') (hW : (S'.map fun v => v.category).sum = W)
    (hN : Pays C N (.ref a :: as) (top, (a, qq, ob) :: H) QN) (h : ∀ v G', QN v G' → Runs C M k n q P (v.toList ++ S') G' Q) : Runs C M k n pc P S (top, (a, qq, ob) :: H) Q := by
  intro hw p e s m args below meth c T locs L hx hby hml hret hnm hown hZ hf hsz X hR hF
  have hq := d.2
  subst hq hS
  have hr := hr0.al hfull
  obtain ⟨cl, u1, u2⟩ := hR.objs.2.2.1.cell
  have hpr : s.PrivateAt N.1 := Cond.privateMethod_at (mvP hZ (hw _ wp) (args := #[]))
  obtain ⟨c2, k2, i1, i2, i3, i4, -⟩ := Cond.instantiable_spec (mvT (args := args) hZ (hw _ kI))
  have hsel : (Jvm.Cond.selects N.1.cls N.1 N.1).before args s = true := Stand.selects_self_of_private (by rw [wK]; exact i1) i2 (by simp at i4; exact i4.1) hpr (mvT hZ (hw _ wi)) wc.2.2
  obtain ⟨_, _, ⟨T1, L1, k1, n1⟩, -, X1, ⟨Lc, hQ, l1, y1, z1⟩, st⟩ := X.privateBack hx (y := N.1) hown (mvT hZ (hw _ wl)) (mvT hZ (hw _ wi)) hsel hpr (mvT hZ (hw _ wc.1)) wc.2.2 (backOf (W := W) (Q := fun v h L => Fr C.2.2.1 L ∧ ∃ G', Rep C.2.1 C.2.2.1 h G' ∧ QN v G') (hN hw T.heap hR []) hZ (hw _ wc.1) (hw _ wc.2.1) hr.1 hr.2.1) (g := mkF m pc L (as.reverse ++ .ref a :: S')) rfl (by rw [hml]; exact hsz) (Steps.refl _) (a := a) u1 u2 (argsL := as) (rest := S') (ar.len rfl) rfl (by show 2 * 0 + _ ≤ _; omega) (hb hby d.1) (fun _ _ => ⟨rfl, rfl, hr.2.2.1, hr.2.2.2⟩)
  dsimp only [Pt.U, Pt.locs, Pt.cells, Pt.slots] at X1 l1 y1 z1 st hQ
  subst l1 y1 z1
  exact after_call hw hx hby hml hret hnm hown hZ hf hsz hF X1 hQ (by rw [hr0.2.2.1, hr0.2.2.2]; exact h) (fun t u => st.trans u)
theorem Runs.callI {QN : Option Value → AH → Prop} (d : DAt M pc (.invokespecial idx) 3 q) (hi : N.1.name = "<init>") (hn : N.2.2.2.1 = none) (wl : Jvm.Cond.methodLink M.1.cls idx N.1 ∈ tables_1) (wi : Jvm.Cond.instanceMethod N.1 ∈ tables_1) (wc : code_w N) (ar : arity N as.length) (hr : room_al M N W k n) (hS : S = as.reverse ++ .ref a :: S') (hW : (S'.map fun v => v.category).sum = W) {k' n' : Nat} (hk' : k + N.2.2.2.2.cells = k') (hn' : n + N.2.2.2.2.slots = n')
    (hN : Pays C N (.ref a :: as) G QN) (h : ∀ v G', QN v G' → Runs C M k' n' q P (v.toList ++ S') G' Q) : Runs C M k n pc P S G Q := by
  intro hw p e s m args below meth c T locs L hx hby hml hret hnm hown hZ hf hsz X hR hF
  have hq := d.2
  subst hq hS hk' hn'
  have wc1 := hw _ wc.1
  obtain ⟨_, _, ⟨T1, L1, k1, n1⟩, -, X1, ⟨Lc, hQ, l1, y1, z1⟩, st⟩ := X.specialBack hx (y := N.1) hi hown (mvT hZ (hw _ wl)) (mvT hZ (hw _ wi)) (bytes := N.2.1) (maxL := N.2.2.1) (by have := mvT (args := args) hZ wc1; rw [hn] at this; exact this) wc.2.2 (backOf (W := W) (Q := fun v h L => Fr C.2.2.1 L ∧ ∃ G', Rep C.2.1 C.2.2.1 h G' ∧ QN v G') (hN hw T.heap hR []) hZ wc1 (hw _ wc.2.1) hr.1 hr.2.1) (g := mkF m pc L (as.reverse ++ .ref a :: S')) rfl (by rw [hml]; exact hsz) (Steps.refl _) (a := a) (argsL := as) (rest := S') (ar.len rfl) rfl (by show 2 * 0 + _ ≤ _; omega) (hb hby d.1) (fun _ _ => ⟨rfl, rfl, hr.2.2.1, hr.2.2.2⟩)
  dsimp only [Pt.U, Pt.locs, Pt.cells, Pt.slots] at X1 l1 y1 z1 st hQ
  subst l1 y1 z1
  exact after_call hw hx hby hml hret hnm hown hZ hf hsz hF X1 hQ h (fun t u => st.trans u)
/-- the plain form of a contract: one answer, one heap -/
abbrev Ans (r : Option Value) (G1 : AH) : Option Value → AH → Prop := fun v G' => v = r ∧ G' = G1
theorem ans1 {x : Value} {k n : Nat} (h : Runs C M k n pc P (x :: S) G1 Q) : ∀ v G', Ans (some x) G1 v G' → Runs C M k n pc P (v.toList ++ S) G' Q := by
  rintro v G' ⟨rfl, rfl⟩; exact h
theorem ans0 {k n : Nat} (h : Runs C M k n pc P S G1 Q) : ∀ v G', Ans none G1 v G' → Runs C M k n pc P (v.toList ++ S) G' Q := by
  rintro v G' ⟨rfl, rfl⟩; exact h
end Calls
theorem pnK : plainName "MirrorResync" = true := by first | (simp [plainName, overriddenIn]; done) | decide +kernel
theorem pnL : plainName "MirrorResyncL7" = true := by first | (simp [plainName, overriddenIn]; done) | decide +kernel
theorem w0 : (Jvm.Cond.classLink "MirrorResyncL7" (10 : Nat) "MirrorResync") ∈ tables_1 := mem1 0 rfl
theorem w3 : (Jvm.Cond.methodLink "MirrorResyncL7" (54 : Nat) ({ cls := "MirrorResync", name := "<init>", desc := "(III)V" } : Jvm.MethodName)) ∈ tables_1 := mem1 3 rfl
theorem w4 : (Jvm.Cond.instanceMethod ({ cls := "MirrorResync", name := "<init>", desc := "(III)V" } : Jvm.MethodName)) ∈ tables_1 := mem1 4 rfl
theorem w6 : (Jvm.Cond.methodLink "MirrorResync" (1 : Nat) ({ cls := "java/lang/Object", name := "<init>", desc := "()V" } : Jvm.MethodName)) ∈ tables_1 := mem1 6 rfl
theorem w7 : (Jvm.Cond.instanceMethod ({ cls := "java/lang/Object", name := "<init>", desc := "()V" } : Jvm.MethodName)) ∈ tables_1 := mem1 7 rfl
theorem w8 : (Jvm.Cond.code ({ cls := "java/lang/Object", name := "<init>", desc := "()V" } : Jvm.MethodName) object_method_1_code (1 : Nat) (Option.none : Option Jvm.ClassFile.FieldType)) ∈ tables_1 := mem1 8 rfl
theorem w9 : (Jvm.Cond.arrayClass Jvm.ClassFile.FieldType.int) ∈ tables_1 := mem1 9 rfl
theorem w10 : (Jvm.Cond.fieldLink "MirrorResync" (7 : Nat) "MirrorResync" "data" "[I") ∈ tables_1 := mem1 10 rfl
theorem w11 : (Jvm.Cond.lays "MirrorResync" "MirrorResync" "data" "[I") ∈ tables_1 := mem1 11 rfl
theorem w12 : (Jvm.Cond.fieldLink "MirrorResync" (13 : Nat) "MirrorResync" "acked" "[I") ∈ tables_1 := mem1 12 rfl
theorem w13 : (Jvm.Cond.lays "MirrorResync" "MirrorResync" "acked" "[I") ∈ tables_1 := mem1 13 rfl
theorem w14 : (Jvm.Cond.fieldLink "MirrorResync" (16 : Nat) "MirrorResync" "state" "[I") ∈ tables_1 := mem1 14 rfl
theorem w15 : (Jvm.Cond.lays "MirrorResync" "MirrorResync" "state" "[I") ∈ tables_1 := mem1 15 rfl
theorem w16 : (Jvm.Cond.arrayClass Jvm.ClassFile.FieldType.boolean) ∈ tables_1 := mem1 16 rfl
theorem w17 : (Jvm.Cond.fieldLink "MirrorResync" (19 : Nat) "MirrorResync" "dirty" "[Z") ∈ tables_1 := mem1 17 rfl
theorem w18 : (Jvm.Cond.lays "MirrorResync" "MirrorResync" "dirty" "[Z") ∈ tables_1 := mem1 18 rfl
theorem w19 : (Jvm.Cond.fieldLink "MirrorResync" (23 : Nat) "MirrorResync" "pending" "[Z") ∈ tables_1 := mem1 19 rfl
theorem w20 : (Jvm.Cond.lays "MirrorResync" "MirrorResync" "pending" "[Z") ∈ tables_1 := mem1 20 rfl
theorem w21 : (Jvm.Cond.fieldLink "MirrorResync" (26 : Nat) "MirrorResync" "age" "[I") ∈ tables_1 := mem1 21 rfl
theorem w22 : (Jvm.Cond.lays "MirrorResync" "MirrorResync" "age" "[I") ∈ tables_1 := mem1 22 rfl
theorem w23 : (Jvm.Cond.methodLink "MirrorResync" (29 : Nat) ({ cls := "MirrorResync", name := "clamp", desc := "(III)I" } : Jvm.MethodName)) ∈ tables_1 := mem1 23 rfl
theorem w24 : (Jvm.Cond.static ({ cls := "MirrorResync", name := "clamp", desc := "(III)I" } : Jvm.MethodName)) ∈ tables_1 := mem1 24 rfl
theorem w26 : (Jvm.Cond.fieldLink "MirrorResync" (33 : Nat) "MirrorResync" "n" "I") ∈ tables_1 := mem1 26 rfl
theorem w27 : (Jvm.Cond.lays "MirrorResync" "MirrorResync" "n" "I") ∈ tables_1 := mem1 27 rfl
theorem w28 : (Jvm.Cond.fieldLink "MirrorResync" (37 : Nat) "MirrorResync" "regionSize" "I") ∈ tables_1 := mem1 28 rfl
theorem w29 : (Jvm.Cond.lays "MirrorResync" "MirrorResync" "regionSize" "I") ∈ tables_1 := mem1 29 rfl
theorem w30 : (Jvm.Cond.fieldLink "MirrorResync" (40 : Nat) "MirrorResync" "clearDelay" "I") ∈ tables_1 := mem1 30 rfl
theorem w31 : (Jvm.Cond.lays "MirrorResync" "MirrorResync" "clearDelay" "I") ∈ tables_1 := mem1 31 rfl
theorem w32 : (Jvm.Cond.fieldLink "MirrorResync" (43 : Nat) "MirrorResync" "regions" "I") ∈ tables_1 := mem1 32 rfl
theorem w33 : (Jvm.Cond.lays "MirrorResync" "MirrorResync" "regions" "I") ∈ tables_1 := mem1 33 rfl
theorem w34 : (Jvm.Cond.fieldLink "MirrorResync" (46 : Nat) "MirrorResync" "down" "Z") ∈ tables_1 := mem1 34 rfl
theorem w35 : (Jvm.Cond.lays "MirrorResync" "MirrorResync" "down" "Z") ∈ tables_1 := mem1 35 rfl
theorem w36 : (Jvm.Cond.fieldLink "MirrorResync" (50 : Nat) "MirrorResync" "busy" "Z") ∈ tables_1 := mem1 36 rfl
theorem w37 : (Jvm.Cond.lays "MirrorResync" "MirrorResync" "busy" "Z") ∈ tables_1 := mem1 37 rfl
theorem w38 : (Jvm.Cond.fieldLink "MirrorResync" (53 : Nat) "MirrorResync" "pBlock" "I") ∈ tables_1 := mem1 38 rfl
theorem w39 : (Jvm.Cond.lays "MirrorResync" "MirrorResync" "pBlock" "I") ∈ tables_1 := mem1 39 rfl
theorem w40 : (Jvm.Cond.fieldLink "MirrorResync" (56 : Nat) "MirrorResync" "pValue" "I") ∈ tables_1 := mem1 40 rfl
theorem w41 : (Jvm.Cond.lays "MirrorResync" "MirrorResync" "pValue" "I") ∈ tables_1 := mem1 41 rfl
theorem w42 : (Jvm.Cond.fieldLink "MirrorResync" (59 : Nat) "MirrorResync" "pCursor" "I") ∈ tables_1 := mem1 42 rfl
theorem w43 : (Jvm.Cond.lays "MirrorResync" "MirrorResync" "pCursor" "I") ∈ tables_1 := mem1 43 rfl
theorem w44 : (Jvm.Cond.methodLink "MirrorResyncL7" (60 : Nat) ({ cls := "MirrorResync", name := "crash", desc := "()I" } : Jvm.MethodName)) ∈ tables_1 := mem1 44 rfl
theorem w45 : (Jvm.Cond.declares ({ cls := "MirrorResync", name := "crash", desc := "()I" } : Jvm.MethodName)) ∈ tables_1 := mem1 45 rfl
theorem w46 : (Jvm.Cond.instanceMethod ({ cls := "MirrorResync", name := "crash", desc := "()I" } : Jvm.MethodName)) ∈ tables_1 := mem1 46 rfl
theorem w47 : (Jvm.Cond.selects "MirrorResync" ({ cls := "MirrorResync", name := "crash", desc := "()I" } : Jvm.MethodName) ({ cls := "MirrorResync", name := "crash", desc := "()I" } : Jvm.MethodName)) ∈ tables_1 := mem1 47 rfl
theorem w49 : (Jvm.Cond.methodLink "MirrorResync" (74 : Nat) ({ cls := "MirrorResync", name := "clearPending", desc := "()V" } : Jvm.MethodName)) ∈ tables_1 := mem1 49 rfl
theorem w50 : (Jvm.Cond.instanceMethod ({ cls := "MirrorResync", name := "clearPending", desc := "()V" } : Jvm.MethodName)) ∈ tables_1 := mem1 50 rfl
theorem w51 : (Jvm.Cond.privateMethod ({ cls := "MirrorResync", name := "clearPending", desc := "()V" } : Jvm.MethodName)) ∈ tables_1 := mem1 51 rfl
theorem w53 : (Jvm.Cond.methodLink "MirrorResyncL7" (57 : Nat) ({ cls := "MirrorResync", name := "write", desc := "(II)I" } : Jvm.MethodName)) ∈ tables_1 := mem1 53 rfl
theorem w54 : (Jvm.Cond.declares ({ cls := "MirrorResync", name := "write", desc := "(II)I" } : Jvm.MethodName)) ∈ tables_1 := mem1 54 rfl
theorem w55 : (Jvm.Cond.instanceMethod ({ cls := "MirrorResync", name := "write", desc := "(II)I" } : Jvm.MethodName)) ∈ tables_1 := mem1 55 rfl
theorem w56 : (Jvm.Cond.selects "MirrorResync" ({ cls := "MirrorResync", name := "write", desc := "(II)I" } : Jvm.MethodName) ({ cls := "MirrorResync", name := "write", desc := "(II)I" } : Jvm.MethodName)) ∈ tables_1 := mem1 56 rfl
theorem w58 : (Jvm.Cond.methodLink "MirrorResyncL7" (63 : Nat) ({ cls := "MirrorResync", name := "failLeg", desc := "(I)I" } : Jvm.MethodName)) ∈ tables_1 := mem1 58 rfl
theorem w59 : (Jvm.Cond.declares ({ cls := "MirrorResync", name := "failLeg", desc := "(I)I" } : Jvm.MethodName)) ∈ tables_1 := mem1 59 rfl
theorem w60 : (Jvm.Cond.instanceMethod ({ cls := "MirrorResync", name := "failLeg", desc := "(I)I" } : Jvm.MethodName)) ∈ tables_1 := mem1 60 rfl
theorem w61 : (Jvm.Cond.selects "MirrorResync" ({ cls := "MirrorResync", name := "failLeg", desc := "(I)I" } : Jvm.MethodName) ({ cls := "MirrorResync", name := "failLeg", desc := "(I)I" } : Jvm.MethodName)) ∈ tables_1 := mem1 61 rfl
theorem w63 : (Jvm.Cond.methodLink "MirrorResyncL7" (25 : Nat) ({ cls := "MirrorResync", name := "restart", desc := "()I" } : Jvm.MethodName)) ∈ tables_1 := mem1 63 rfl
theorem w64 : (Jvm.Cond.declares ({ cls := "MirrorResync", name := "restart", desc := "()I" } : Jvm.MethodName)) ∈ tables_1 := mem1 64 rfl
theorem w65 : (Jvm.Cond.instanceMethod ({ cls := "MirrorResync", name := "restart", desc := "()I" } : Jvm.MethodName)) ∈ tables_1 := mem1 65 rfl
theorem w66 : (Jvm.Cond.selects "MirrorResync" ({ cls := "MirrorResync", name := "restart", desc := "()I" } : Jvm.MethodName) ({ cls := "MirrorResync", name := "restart", desc := "()I" } : Jvm.MethodName)) ∈ tables_1 := mem1 66 rfl
theorem w68 : (Jvm.Cond.methodLink "MirrorResync" (77 : Nat) ({ cls := "MirrorResync", name := "validLeg", desc := "(I)Z" } : Jvm.MethodName)) ∈ tables_1 := mem1 68 rfl
theorem w69 : (Jvm.Cond.instanceMethod ({ cls := "MirrorResync", name := "validLeg", desc := "(I)Z" } : Jvm.MethodName)) ∈ tables_1 := mem1 69 rfl
theorem w70 : (Jvm.Cond.privateMethod ({ cls := "MirrorResync", name := "validLeg", desc := "(I)Z" } : Jvm.MethodName)) ∈ tables_1 := mem1 70 rfl
theorem w72 : (Jvm.Cond.methodLink "MirrorResync" (62 : Nat) ({ cls := "MirrorResync", name := "validBlock", desc := "(I)Z" } : Jvm.MethodName)) ∈ tables_1 := mem1 72 rfl
theorem w73 : (Jvm.Cond.instanceMethod ({ cls := "MirrorResync", name := "validBlock", desc := "(I)Z" } : Jvm.MethodName)) ∈ tables_1 := mem1 73 rfl
theorem w74 : (Jvm.Cond.privateMethod ({ cls := "MirrorResync", name := "validBlock", desc := "(I)Z" } : Jvm.MethodName)) ∈ tables_1 := mem1 74 rfl
theorem w76 : (Jvm.Cond.constant "MirrorResync" (66 : Nat) (65535 : Int32)) ∈ tables_1 := mem1 76 rfl
theorem w77 : (Jvm.Cond.methodLink "MirrorResync" (67 : Nat) ({ cls := "MirrorResync", name := "markDirty", desc := "(I)V" } : Jvm.MethodName)) ∈ tables_1 := mem1 77 rfl
theorem w78 : (Jvm.Cond.instanceMethod ({ cls := "MirrorResync", name := "markDirty", desc := "(I)V" } : Jvm.MethodName)) ∈ tables_1 := mem1 78 rfl
theorem w79 : (Jvm.Cond.privateMethod ({ cls := "MirrorResync", name := "markDirty", desc := "(I)V" } : Jvm.MethodName)) ∈ tables_1 := mem1 79 rfl
theorem w81 : (Jvm.Cond.methodLink "MirrorResyncL7" (72 : Nat) ({ cls := "MirrorResyncL7", name := "relation", desc := "(LMirrorResync;)Z" } : Jvm.MethodName)) ∈ tables_1 := mem1 81 rfl
theorem w82 : (Jvm.Cond.static ({ cls := "MirrorResyncL7", name := "relation", desc := "(LMirrorResync;)Z" } : Jvm.MethodName)) ∈ tables_1 := mem1 82 rfl
theorem w85 : (Jvm.Cond.methodLink "MirrorResyncL7" (21 : Nat) ({ cls := "MirrorResync", name := "isDown", desc := "()Z" } : Jvm.MethodName)) ∈ tables_1 := mem1 85 rfl
theorem w86 : (Jvm.Cond.declares ({ cls := "MirrorResync", name := "isDown", desc := "()Z" } : Jvm.MethodName)) ∈ tables_1 := mem1 86 rfl
theorem w87 : (Jvm.Cond.instanceMethod ({ cls := "MirrorResync", name := "isDown", desc := "()Z" } : Jvm.MethodName)) ∈ tables_1 := mem1 87 rfl
theorem w88 : (Jvm.Cond.selects "MirrorResync" ({ cls := "MirrorResync", name := "isDown", desc := "()Z" } : Jvm.MethodName) ({ cls := "MirrorResync", name := "isDown", desc := "()Z" } : Jvm.MethodName)) ∈ tables_1 := mem1 88 rfl
theorem w90 : (Jvm.Cond.methodLink "MirrorResyncL7" (29 : Nat) ({ cls := "MirrorResync", name := "pendingBlock", desc := "()I" } : Jvm.MethodName)) ∈ tables_1 := mem1 90 rfl
theorem w91 : (Jvm.Cond.declares ({ cls := "MirrorResync", name := "pendingBlock", desc := "()I" } : Jvm.MethodName)) ∈ tables_1 := mem1 91 rfl
theorem w92 : (Jvm.Cond.instanceMethod ({ cls := "MirrorResync", name := "pendingBlock", desc := "()I" } : Jvm.MethodName)) ∈ tables_1 := mem1 92 rfl
theorem w93 : (Jvm.Cond.selects "MirrorResync" ({ cls := "MirrorResync", name := "pendingBlock", desc := "()I" } : Jvm.MethodName) ({ cls := "MirrorResync", name := "pendingBlock", desc := "()I" } : Jvm.MethodName)) ∈ tables_1 := mem1 93 rfl
theorem w95 : (Jvm.Cond.methodLink "MirrorResyncL7" (35 : Nat) ({ cls := "MirrorResync", name := "legState", desc := "(I)I" } : Jvm.MethodName)) ∈ tables_1 := mem1 95 rfl
theorem w96 : (Jvm.Cond.declares ({ cls := "MirrorResync", name := "legState", desc := "(I)I" } : Jvm.MethodName)) ∈ tables_1 := mem1 96 rfl
theorem w97 : (Jvm.Cond.instanceMethod ({ cls := "MirrorResync", name := "legState", desc := "(I)I" } : Jvm.MethodName)) ∈ tables_1 := mem1 97 rfl
theorem w98 : (Jvm.Cond.selects "MirrorResync" ({ cls := "MirrorResync", name := "legState", desc := "(I)I" } : Jvm.MethodName) ({ cls := "MirrorResync", name := "legState", desc := "(I)I" } : Jvm.MethodName)) ∈ tables_1 := mem1 98 rfl
theorem w100 : (Jvm.Cond.methodLink "MirrorResyncL7" (38 : Nat) ({ cls := "MirrorResyncL7", name := "pack", desc := "(LMirrorResync;I)J" } : Jvm.MethodName)) ∈ tables_1 := mem1 100 rfl
theorem w101 : (Jvm.Cond.static ({ cls := "MirrorResyncL7", name := "pack", desc := "(LMirrorResync;I)J" } : Jvm.MethodName)) ∈ tables_1 := mem1 101 rfl
theorem w103 : (Jvm.Cond.methodLink "MirrorResyncL7" (15 : Nat) ({ cls := "MirrorResync", name := "peek", desc := "(II)I" } : Jvm.MethodName)) ∈ tables_1 := mem1 103 rfl
theorem w104 : (Jvm.Cond.declares ({ cls := "MirrorResync", name := "peek", desc := "(II)I" } : Jvm.MethodName)) ∈ tables_1 := mem1 104 rfl
theorem w105 : (Jvm.Cond.instanceMethod ({ cls := "MirrorResync", name := "peek", desc := "(II)I" } : Jvm.MethodName)) ∈ tables_1 := mem1 105 rfl
theorem w106 : (Jvm.Cond.selects "MirrorResync" ({ cls := "MirrorResync", name := "peek", desc := "(II)I" } : Jvm.MethodName) ({ cls := "MirrorResync", name := "peek", desc := "(II)I" } : Jvm.MethodName)) ∈ tables_1 := mem1 106 rfl
theorem w108 : (Jvm.Cond.methodLink "MirrorResyncL7" (9 : Nat) ({ cls := "MirrorResync", name := "ackedValue", desc := "(I)I" } : Jvm.MethodName)) ∈ tables_1 := mem1 108 rfl
theorem w109 : (Jvm.Cond.declares ({ cls := "MirrorResync", name := "ackedValue", desc := "(I)I" } : Jvm.MethodName)) ∈ tables_1 := mem1 109 rfl
theorem w110 : (Jvm.Cond.instanceMethod ({ cls := "MirrorResync", name := "ackedValue", desc := "(I)I" } : Jvm.MethodName)) ∈ tables_1 := mem1 110 rfl
theorem w111 : (Jvm.Cond.selects "MirrorResync" ({ cls := "MirrorResync", name := "ackedValue", desc := "(I)I" } : Jvm.MethodName) ({ cls := "MirrorResync", name := "ackedValue", desc := "(I)I" } : Jvm.MethodName)) ∈ tables_1 := mem1 111 rfl
theorem w113 : (Jvm.Cond.methodLink "MirrorResyncL7" (44 : Nat) ({ cls := "MirrorResync", name := "resync", desc := "()I" } : Jvm.MethodName)) ∈ tables_1 := mem1 113 rfl
theorem w114 : (Jvm.Cond.declares ({ cls := "MirrorResync", name := "resync", desc := "()I" } : Jvm.MethodName)) ∈ tables_1 := mem1 114 rfl
theorem w115 : (Jvm.Cond.instanceMethod ({ cls := "MirrorResync", name := "resync", desc := "()I" } : Jvm.MethodName)) ∈ tables_1 := mem1 115 rfl
theorem w116 : (Jvm.Cond.selects "MirrorResync" ({ cls := "MirrorResync", name := "resync", desc := "()I" } : Jvm.MethodName) ({ cls := "MirrorResync", name := "resync", desc := "()I" } : Jvm.MethodName)) ∈ tables_1 := mem1 116 rfl
theorem w118 : (Jvm.Cond.methodLink "MirrorResync" (90 : Nat) ({ cls := "MirrorResync", name := "staleLeg", desc := "()I" } : Jvm.MethodName)) ∈ tables_1 := mem1 118 rfl
theorem w119 : (Jvm.Cond.instanceMethod ({ cls := "MirrorResync", name := "staleLeg", desc := "()I" } : Jvm.MethodName)) ∈ tables_1 := mem1 119 rfl
theorem w120 : (Jvm.Cond.privateMethod ({ cls := "MirrorResync", name := "staleLeg", desc := "()I" } : Jvm.MethodName)) ∈ tables_1 := mem1 120 rfl
theorem w122 : (Jvm.Cond.methodLink "MirrorResyncL7" (47 : Nat) ({ cls := "MirrorResyncL7", name := "get", desc := "(JI)I" } : Jvm.MethodName)) ∈ tables_1 := mem1 122 rfl
theorem w123 : (Jvm.Cond.static ({ cls := "MirrorResyncL7", name := "get", desc := "(JI)I" } : Jvm.MethodName)) ∈ tables_1 := mem1 123 rfl
theorem w125 : (Jvm.Cond.constantLong "MirrorResyncL7" (7 : Nat) (31 : Int64)) ∈ tables_1 := mem1 125 rfl
theorem w126 : (Jvm.Cond.methodLink "MirrorResyncL7" (51 : Nat) ({ cls := "MirrorResync", name := "read", desc := "(I)I" } : Jvm.MethodName)) ∈ tables_1 := mem1 126 rfl
theorem w127 : (Jvm.Cond.declares ({ cls := "MirrorResync", name := "read", desc := "(I)I" } : Jvm.MethodName)) ∈ tables_1 := mem1 127 rfl
theorem w128 : (Jvm.Cond.instanceMethod ({ cls := "MirrorResync", name := "read", desc := "(I)I" } : Jvm.MethodName)) ∈ tables_1 := mem1 128 rfl
theorem w129 : (Jvm.Cond.selects "MirrorResync" ({ cls := "MirrorResync", name := "read", desc := "(I)I" } : Jvm.MethodName) ({ cls := "MirrorResync", name := "read", desc := "(I)I" } : Jvm.MethodName)) ∈ tables_1 := mem1 129 rfl
theorem w131 : (Jvm.Cond.methodLink "MirrorResyncL7" (32 : Nat) ({ cls := "MirrorResync", name := "step", desc := "()I" } : Jvm.MethodName)) ∈ tables_1 := mem1 131 rfl
theorem w132 : (Jvm.Cond.declares ({ cls := "MirrorResync", name := "step", desc := "()I" } : Jvm.MethodName)) ∈ tables_1 := mem1 132 rfl
theorem w133 : (Jvm.Cond.instanceMethod ({ cls := "MirrorResync", name := "step", desc := "()I" } : Jvm.MethodName)) ∈ tables_1 := mem1 133 rfl
theorem w134 : (Jvm.Cond.selects "MirrorResync" ({ cls := "MirrorResync", name := "step", desc := "()I" } : Jvm.MethodName) ({ cls := "MirrorResync", name := "step", desc := "()I" } : Jvm.MethodName)) ∈ tables_1 := mem1 134 rfl
theorem w136 : (Jvm.Cond.methodLink "MirrorResyncL7" (66 : Nat) ({ cls := "MirrorResync", name := "reattachLeg", desc := "(I)I" } : Jvm.MethodName)) ∈ tables_1 := mem1 136 rfl
theorem w137 : (Jvm.Cond.declares ({ cls := "MirrorResync", name := "reattachLeg", desc := "(I)I" } : Jvm.MethodName)) ∈ tables_1 := mem1 137 rfl
theorem w138 : (Jvm.Cond.instanceMethod ({ cls := "MirrorResync", name := "reattachLeg", desc := "(I)I" } : Jvm.MethodName)) ∈ tables_1 := mem1 138 rfl
theorem w139 : (Jvm.Cond.selects "MirrorResync" ({ cls := "MirrorResync", name := "reattachLeg", desc := "(I)I" } : Jvm.MethodName) ({ cls := "MirrorResync", name := "reattachLeg", desc := "(I)I" } : Jvm.MethodName)) ∈ tables_1 := mem1 139 rfl
theorem w141 : (Jvm.Cond.methodLink "MirrorResync" (80 : Nat) ({ cls := "MirrorResync", name := "checkDetached", desc := "(I)I" } : Jvm.MethodName)) ∈ tables_1 := mem1 141 rfl
theorem w142 : (Jvm.Cond.instanceMethod ({ cls := "MirrorResync", name := "checkDetached", desc := "(I)I" } : Jvm.MethodName)) ∈ tables_1 := mem1 142 rfl
theorem w143 : (Jvm.Cond.privateMethod ({ cls := "MirrorResync", name := "checkDetached", desc := "(I)I" } : Jvm.MethodName)) ∈ tables_1 := mem1 143 rfl
theorem w145 : (Jvm.Cond.methodLink "MirrorResync" (71 : Nat) ({ cls := "MirrorResync", name := "acknowledge", desc := "()V" } : Jvm.MethodName)) ∈ tables_1 := mem1 145 rfl
theorem w146 : (Jvm.Cond.instanceMethod ({ cls := "MirrorResync", name := "acknowledge", desc := "()V" } : Jvm.MethodName)) ∈ tables_1 := mem1 146 rfl
theorem w147 : (Jvm.Cond.privateMethod ({ cls := "MirrorResync", name := "acknowledge", desc := "()V" } : Jvm.MethodName)) ∈ tables_1 := mem1 147 rfl
theorem w149 : (Jvm.Cond.methodLink "MirrorResync" (101 : Nat) ({ cls := "MirrorResync", name := "ageOthers", desc := "(I)V" } : Jvm.MethodName)) ∈ tables_1 := mem1 149 rfl
theorem w150 : (Jvm.Cond.instanceMethod ({ cls := "MirrorResync", name := "ageOthers", desc := "(I)V" } : Jvm.MethodName)) ∈ tables_1 := mem1 150 rfl
theorem w151 : (Jvm.Cond.privateMethod ({ cls := "MirrorResync", name := "ageOthers", desc := "(I)V" } : Jvm.MethodName)) ∈ tables_1 := mem1 151 rfl
theorem w153 : (Jvm.Cond.methodLink "MirrorResync" (104 : Nat) ({ cls := "MirrorResync", name := "bothActive", desc := "()Z" } : Jvm.MethodName)) ∈ tables_1 := mem1 153 rfl
theorem w154 : (Jvm.Cond.instanceMethod ({ cls := "MirrorResync", name := "bothActive", desc := "()Z" } : Jvm.MethodName)) ∈ tables_1 := mem1 154 rfl
theorem w155 : (Jvm.Cond.privateMethod ({ cls := "MirrorResync", name := "bothActive", desc := "()Z" } : Jvm.MethodName)) ∈ tables_1 := mem1 155 rfl
theorem w157 : (Jvm.Cond.methodLink "MirrorResyncL7" (69 : Nat) ({ cls := "MirrorResync", name := "replaceLeg", desc := "(I)I" } : Jvm.MethodName)) ∈ tables_1 := mem1 157 rfl
theorem w158 : (Jvm.Cond.declares ({ cls := "MirrorResync", name := "replaceLeg", desc := "(I)I" } : Jvm.MethodName)) ∈ tables_1 := mem1 158 rfl
theorem w159 : (Jvm.Cond.instanceMethod ({ cls := "MirrorResync", name := "replaceLeg", desc := "(I)I" } : Jvm.MethodName)) ∈ tables_1 := mem1 159 rfl
theorem w160 : (Jvm.Cond.selects "MirrorResync" ({ cls := "MirrorResync", name := "replaceLeg", desc := "(I)I" } : Jvm.MethodName) ({ cls := "MirrorResync", name := "replaceLeg", desc := "(I)I" } : Jvm.MethodName)) ∈ tables_1 := mem1 160 rfl
theorem w162 : (Jvm.Cond.methodLink "MirrorResync" (94 : Nat) ({ cls := "MirrorResync", name := "copyDirtyRegions", desc := "(II)V" } : Jvm.MethodName)) ∈ tables_1 := mem1 162 rfl
theorem w163 : (Jvm.Cond.instanceMethod ({ cls := "MirrorResync", name := "copyDirtyRegions", desc := "(II)V" } : Jvm.MethodName)) ∈ tables_1 := mem1 163 rfl
theorem w164 : (Jvm.Cond.privateMethod ({ cls := "MirrorResync", name := "copyDirtyRegions", desc := "(II)V" } : Jvm.MethodName)) ∈ tables_1 := mem1 164 rfl
theorem w166 : (Jvm.Cond.methodLink "MirrorResync" (98 : Nat) ({ cls := "MirrorResync", name := "clearBitmap", desc := "()V" } : Jvm.MethodName)) ∈ tables_1 := mem1 166 rfl
theorem w167 : (Jvm.Cond.instanceMethod ({ cls := "MirrorResync", name := "clearBitmap", desc := "()V" } : Jvm.MethodName)) ∈ tables_1 := mem1 167 rfl
theorem w168 : (Jvm.Cond.privateMethod ({ cls := "MirrorResync", name := "clearBitmap", desc := "()V" } : Jvm.MethodName)) ∈ tables_1 := mem1 168 rfl
theorem w170 : (Jvm.Cond.methodLink "MirrorResync" (84 : Nat) ({ cls := "MirrorResync", name := "zeroLeg", desc := "(I)V" } : Jvm.MethodName)) ∈ tables_1 := mem1 170 rfl
theorem w171 : (Jvm.Cond.instanceMethod ({ cls := "MirrorResync", name := "zeroLeg", desc := "(I)V" } : Jvm.MethodName)) ∈ tables_1 := mem1 171 rfl
theorem w172 : (Jvm.Cond.privateMethod ({ cls := "MirrorResync", name := "zeroLeg", desc := "(I)V" } : Jvm.MethodName)) ∈ tables_1 := mem1 172 rfl
theorem w174 : (Jvm.Cond.methodLink "MirrorResync" (87 : Nat) ({ cls := "MirrorResync", name := "markAllDirty", desc := "()V" } : Jvm.MethodName)) ∈ tables_1 := mem1 174 rfl
theorem w175 : (Jvm.Cond.instanceMethod ({ cls := "MirrorResync", name := "markAllDirty", desc := "()V" } : Jvm.MethodName)) ∈ tables_1 := mem1 175 rfl
theorem w176 : (Jvm.Cond.privateMethod ({ cls := "MirrorResync", name := "markAllDirty", desc := "()V" } : Jvm.MethodName)) ∈ tables_1 := mem1 176 rfl
theorem w178 : (Jvm.Cond.methodLink "MirrorResync" (108 : Nat) ({ cls := "MirrorResync", name := "clearAged", desc := "()V" } : Jvm.MethodName)) ∈ tables_1 := mem1 178 rfl
theorem w179 : (Jvm.Cond.instanceMethod ({ cls := "MirrorResync", name := "clearAged", desc := "()V" } : Jvm.MethodName)) ∈ tables_1 := mem1 179 rfl
theorem w180 : (Jvm.Cond.privateMethod ({ cls := "MirrorResync", name := "clearAged", desc := "()V" } : Jvm.MethodName)) ∈ tables_1 := mem1 180 rfl
theorem w182 : (Jvm.Cond.constantLong "MirrorResyncL7" (19 : Nat) (-1 : Int64)) ∈ tables_1 := mem1 182 rfl
theorem fS_0 : K.2.1[0]? = some ("n", "I") := rfl
theorem fS_1 : K.2.1[1]? = some ("regionSize", "I") := rfl
theorem fS_2 : K.2.1[2]? = some ("clearDelay", "I") := rfl
theorem fS_3 : K.2.1[3]? = some ("regions", "I") := rfl
theorem fS_4 : K.2.1[4]? = some ("down", "Z") := rfl
theorem fS_5 : K.2.1[5]? = some ("busy", "Z") := rfl
theorem fS_6 : K.2.1[6]? = some ("pBlock", "I") := rfl
theorem fS_7 : K.2.1[7]? = some ("pValue", "I") := rfl
theorem fS_8 : K.2.1[8]? = some ("pCursor", "I") := rfl
theorem fA_0 : K.2.2[0]? = some ("data", .int, (64 : Int32)) := rfl
theorem fA_1 : K.2.2[1]? = some ("acked", .int, (32 : Int32)) := rfl
theorem fA_2 : K.2.2[2]? = some ("state", .int, (2 : Int32)) := rfl
theorem fA_3 : K.2.2[3]? = some ("dirty", .boolean, (32 : Int32)) := rfl
theorem fA_4 : K.2.2[4]? = some ("pending", .boolean, (32 : Int32)) := rfl
theorem fA_5 : K.2.2[5]? = some ("age", .int, (32 : Int32)) := rfl
theorem cb_m5 : (Int8.ofInt (-5)).toInt32 = (-5 : Int32) := by decide
theorem cb_m4 : (Int8.ofInt (-4)).toInt32 = (-4 : Int32) := by decide
theorem cb_m3 : (Int8.ofInt (-3)).toInt32 = (-3 : Int32) := by decide
theorem cb_m2 : (Int8.ofInt (-2)).toInt32 = (-2 : Int32) := by decide
theorem cb_6 : (Int8.ofInt 6).toInt32 = (6 : Int32) := by decide
theorem cb_7 : (Int8.ofInt 7).toInt32 = (7 : Int32) := by decide
theorem cb_8 : (Int8.ofInt 8).toInt32 = (8 : Int32) := by decide
theorem cb_12 : (Int8.ofInt 12).toInt32 = (12 : Int32) := by decide
theorem cb_15 : (Int8.ofInt 15).toInt32 = (15 : Int32) := by decide
theorem cb_30 : (Int8.ofInt 30).toInt32 = (30 : Int32) := by decide
theorem cb_31 : (Int8.ofInt 31).toInt32 = (31 : Int32) := by decide
theorem cb_32 : (Int8.ofInt 32).toInt32 = (32 : Int32) := by decide
theorem cb_64 : (Int8.ofInt 64).toInt32 = (64 : Int32) := by decide
theorem ci_m1 : Int32.ofInt (-1) = (-1 : Int32) := by decide
theorem ci_0 : Int32.ofInt 0 = (0 : Int32) := by decide
theorem ci_1 : Int32.ofInt 1 = (1 : Int32) := by decide
theorem ci_2 : Int32.ofInt 2 = (2 : Int32) := by decide
theorem ci_3 : Int32.ofInt 3 = (3 : Int32) := by decide
theorem ci_4 : Int32.ofInt 4 = (4 : Int32) := by decide
theorem ci_5 : Int32.ofInt 5 = (5 : Int32) := by decide
theorem cl_0 : Int64.ofNat (0 : Fin 2) = (0 : Int64) := by decide
def B2 : Bdy := ((⟨"MirrorResync", "clamp", "(III)I"⟩ : MethodName), prog_1_method_17_code, 3, (some .int), ({ frames := 0, cells := 0, slots := 0, locals := 0 } : Room))
theorem d2_0 : DAt B2 0 (.iload_n 0) 1 1 := ⟨by decide +kernel, rfl⟩
theorem d2_1 : DAt B2 1 (.iload_n 1) 1 2 := ⟨by decide +kernel, rfl⟩
theorem d2_2 : DAt B2 2 (.if_icmp .ge 5) 3 5 := ⟨by decide +kernel, rfl⟩
theorem d2_5 : DAt B2 5 (.iload_n 1) 1 6 := ⟨by decide +kernel, rfl⟩
theorem d2_6 : DAt B2 6 (.ireturn) 1 7 := ⟨by decide +kernel, rfl⟩
theorem d2_7 : DAt B2 7 (.iload_n 0) 1 8 := ⟨by decide +kernel, rfl⟩
theorem d2_8 : DAt B2 8 (.iload_n 2) 1 9 := ⟨by decide +kernel, rfl⟩
theorem d2_9 : DAt B2 9 (.if_icmp .le 5) 3 12 := ⟨by decide +kernel, rfl⟩
theorem d2_12 : DAt B2 12 (.iload_n 2) 1 13 := ⟨by decide +kernel, rfl⟩
theorem d2_13 : DAt B2 13 (.ireturn) 1 14 := ⟨by decide +kernel, rfl⟩
theorem d2_14 : DAt B2 14 (.iload_n 0) 1 15 := ⟨by decide +kernel, rfl⟩
theorem d2_15 : DAt B2 15 (.ireturn) 1 16 := ⟨by decide +kernel, rfl⟩
def B1 : Bdy := ((⟨"MirrorResync", "<init>", "(III)V"⟩ : MethodName), prog_1_method_1_code, 4, none, ({ frames := 1, cells := 6, slots := 194, locals := 15 } : Room))
theorem d1_0 : DAt B1 0 (.aload_n 0) 1 1 := ⟨by decide +kernel, rfl⟩
theorem d1_1 : DAt B1 1 (.invokespecial 1) 3 4 := ⟨by decide +kernel, rfl⟩
theorem d1_4 : DAt B1 4 (.aload_n 0) 1 5 := ⟨by decide +kernel, rfl⟩
theorem d1_5 : DAt B1 5 (.bipush 64) 2 7 := ⟨by decide +kernel, rfl⟩
theorem d1_7 : DAt B1 7 (.newarray .int) 2 9 := ⟨by decide +kernel, rfl⟩
theorem d1_9 : DAt B1 9 (.putfield 7) 3 12 := ⟨by decide +kernel, rfl⟩
theorem d1_12 : DAt B1 12 (.aload_n 0) 1 13 := ⟨by decide +kernel, rfl⟩
theorem d1_13 : DAt B1 13 (.bipush 32) 2 15 := ⟨by decide +kernel, rfl⟩
theorem d1_15 : DAt B1 15 (.newarray .int) 2 17 := ⟨by decide +kernel, rfl⟩
theorem d1_17 : DAt B1 17 (.putfield 13) 3 20 := ⟨by decide +kernel, rfl⟩
theorem d1_20 : DAt B1 20 (.aload_n 0) 1 21 := ⟨by decide +kernel, rfl⟩
theorem d1_21 : DAt B1 21 (.iconst 2) 1 22 := ⟨by decide +kernel, rfl⟩
theorem d1_22 : DAt B1 22 (.newarray .int) 2 24 := ⟨by decide +kernel, rfl⟩
theorem d1_24 : DAt B1 24 (.putfield 16) 3 27 := ⟨by decide +kernel, rfl⟩
theorem d1_27 : DAt B1 27 (.aload_n 0) 1 28 := ⟨by decide +kernel, rfl⟩
theorem d1_28 : DAt B1 28 (.bipush 32) 2 30 := ⟨by decide +kernel, rfl⟩
theorem d1_30 : DAt B1 30 (.newarray .boolean) 2 32 := ⟨by decide +kernel, rfl⟩
theorem d1_32 : DAt B1 32 (.putfield 19) 3 35 := ⟨by decide +kernel, rfl⟩
theorem d1_35 : DAt B1 35 (.aload_n 0) 1 36 := ⟨by decide +kernel, rfl⟩
theorem d1_36 : DAt B1 36 (.bipush 32) 2 38 := ⟨by decide +kernel, rfl⟩
theorem d1_38 : DAt B1 38 (.newarray .boolean) 2 40 := ⟨by decide +kernel, rfl⟩
theorem d1_40 : DAt B1 40 (.putfield 23) 3 43 := ⟨by decide +kernel, rfl⟩
theorem d1_43 : DAt B1 43 (.aload_n 0) 1 44 := ⟨by decide +kernel, rfl⟩
theorem d1_44 : DAt B1 44 (.bipush 32) 2 46 := ⟨by decide +kernel, rfl⟩
theorem d1_46 : DAt B1 46 (.newarray .int) 2 48 := ⟨by decide +kernel, rfl⟩
theorem d1_48 : DAt B1 48 (.putfield 26) 3 51 := ⟨by decide +kernel, rfl⟩
theorem d1_51 : DAt B1 51 (.aload_n 0) 1 52 := ⟨by decide +kernel, rfl⟩
theorem d1_52 : DAt B1 52 (.iload_n 1) 1 53 := ⟨by decide +kernel, rfl⟩
theorem d1_53 : DAt B1 53 (.bipush 8) 2 55 := ⟨by decide +kernel, rfl⟩
theorem d1_55 : DAt B1 55 (.bipush 32) 2 57 := ⟨by decide +kernel, rfl⟩
theorem d1_57 : DAt B1 57 (.invokestatic 29) 3 60 := ⟨by decide +kernel, rfl⟩
theorem d1_60 : DAt B1 60 (.putfield 33) 3 63 := ⟨by decide +kernel, rfl⟩
theorem d1_63 : DAt B1 63 (.aload_n 0) 1 64 := ⟨by decide +kernel, rfl⟩
theorem d1_64 : DAt B1 64 (.iload_n 2) 1 65 := ⟨by decide +kernel, rfl⟩
theorem d1_65 : DAt B1 65 (.iconst 1) 1 66 := ⟨by decide +kernel, rfl⟩
theorem d1_66 : DAt B1 66 (.iconst 4) 1 67 := ⟨by decide +kernel, rfl⟩
theorem d1_67 : DAt B1 67 (.invokestatic 29) 3 70 := ⟨by decide +kernel, rfl⟩
theorem d1_70 : DAt B1 70 (.putfield 37) 3 73 := ⟨by decide +kernel, rfl⟩
theorem d1_73 : DAt B1 73 (.aload_n 0) 1 74 := ⟨by decide +kernel, rfl⟩
theorem d1_74 : DAt B1 74 (.iload_n 3) 1 75 := ⟨by decide +kernel, rfl⟩
theorem d1_75 : DAt B1 75 (.iconst 0) 1 76 := ⟨by decide +kernel, rfl⟩
theorem d1_76 : DAt B1 76 (.iconst 4) 1 77 := ⟨by decide +kernel, rfl⟩
theorem d1_77 : DAt B1 77 (.invokestatic 29) 3 80 := ⟨by decide +kernel, rfl⟩
theorem d1_80 : DAt B1 80 (.putfield 40) 3 83 := ⟨by decide +kernel, rfl⟩
theorem d1_83 : DAt B1 83 (.aload_n 0) 1 84 := ⟨by decide +kernel, rfl⟩
theorem d1_84 : DAt B1 84 (.aload_n 0) 1 85 := ⟨by decide +kernel, rfl⟩
theorem d1_85 : DAt B1 85 (.getfield 33) 3 88 := ⟨by decide +kernel, rfl⟩
theorem d1_88 : DAt B1 88 (.aload_n 0) 1 89 := ⟨by decide +kernel, rfl⟩
theorem d1_89 : DAt B1 89 (.getfield 37) 3 92 := ⟨by decide +kernel, rfl⟩
theorem d1_92 : DAt B1 92 (.iadd) 1 93 := ⟨by decide +kernel, rfl⟩
theorem d1_93 : DAt B1 93 (.iconst 1) 1 94 := ⟨by decide +kernel, rfl⟩
theorem d1_94 : DAt B1 94 (.isub) 1 95 := ⟨by decide +kernel, rfl⟩
theorem d1_95 : DAt B1 95 (.aload_n 0) 1 96 := ⟨by decide +kernel, rfl⟩
theorem d1_96 : DAt B1 96 (.getfield 37) 3 99 := ⟨by decide +kernel, rfl⟩
theorem d1_99 : DAt B1 99 (.idiv) 1 100 := ⟨by decide +kernel, rfl⟩
theorem d1_100 : DAt B1 100 (.putfield 43) 3 103 := ⟨by decide +kernel, rfl⟩
theorem d1_103 : DAt B1 103 (.aload_n 0) 1 104 := ⟨by decide +kernel, rfl⟩
theorem d1_104 : DAt B1 104 (.getfield 16) 3 107 := ⟨by decide +kernel, rfl⟩
theorem d1_107 : DAt B1 107 (.iconst 0) 1 108 := ⟨by decide +kernel, rfl⟩
theorem d1_108 : DAt B1 108 (.iconst 0) 1 109 := ⟨by decide +kernel, rfl⟩
theorem d1_109 : DAt B1 109 (.iastore) 1 110 := ⟨by decide +kernel, rfl⟩
theorem d1_110 : DAt B1 110 (.aload_n 0) 1 111 := ⟨by decide +kernel, rfl⟩
theorem d1_111 : DAt B1 111 (.getfield 16) 3 114 := ⟨by decide +kernel, rfl⟩
theorem d1_114 : DAt B1 114 (.iconst 1) 1 115 := ⟨by decide +kernel, rfl⟩
theorem d1_115 : DAt B1 115 (.iconst 0) 1 116 := ⟨by decide +kernel, rfl⟩
theorem d1_116 : DAt B1 116 (.iastore) 1 117 := ⟨by decide +kernel, rfl⟩
theorem d1_117 : DAt B1 117 (.aload_n 0) 1 118 := ⟨by decide +kernel, rfl⟩
theorem d1_118 : DAt B1 118 (.iconst 0) 1 119 := ⟨by decide +kernel, rfl⟩
theorem d1_119 : DAt B1 119 (.putfield 46) 3 122 := ⟨by decide +kernel, rfl⟩
theorem d1_122 : DAt B1 122 (.aload_n 0) 1 123 := ⟨by decide +kernel, rfl⟩
theorem d1_123 : DAt B1 123 (.iconst 0) 1 124 := ⟨by decide +kernel, rfl⟩
theorem d1_124 : DAt B1 124 (.putfield 50) 3 127 := ⟨by decide +kernel, rfl⟩
theorem d1_127 : DAt B1 127 (.aload_n 0) 1 128 := ⟨by decide +kernel, rfl⟩
theorem d1_128 : DAt B1 128 (.iconst (-1)) 1 129 := ⟨by decide +kernel, rfl⟩
theorem d1_129 : DAt B1 129 (.putfield 53) 3 132 := ⟨by decide +kernel, rfl⟩
theorem d1_132 : DAt B1 132 (.aload_n 0) 1 133 := ⟨by decide +kernel, rfl⟩
theorem d1_133 : DAt B1 133 (.iconst 0) 1 134 := ⟨by decide +kernel, rfl⟩
theorem d1_134 : DAt B1 134 (.putfield 56) 3 137 := ⟨by decide +kernel, rfl⟩
theorem d1_137 : DAt B1 137 (.aload_n 0) 1 138 := ⟨by decide +kernel, rfl⟩
theorem d1_138 : DAt B1 138 (.iconst (-1)) 1 139 := ⟨by decide +kernel, rfl⟩
theorem d1_139 : DAt B1 139 (.putfield 59) 3 142 := ⟨by decide +kernel, rfl⟩
theorem d1_142 : DAt B1 142 (.return_) 1 143 := ⟨by decide +kernel, rfl⟩
def B9 : Bdy := ((⟨"MirrorResync", "validBlock", "(I)Z"⟩ : MethodName), prog_1_method_18_code, 2, (some .boolean), ({ frames := 0, cells := 0, slots := 0, locals := 0 } : Room))
theorem d9_0 : DAt B9 0 (.iload_n 1) 1 1 := ⟨by decide +kernel, rfl⟩
theorem d9_1 : DAt B9 1 (.ifCond .lt 15) 3 4 := ⟨by decide +kernel, rfl⟩
theorem d9_4 : DAt B9 4 (.iload_n 1) 1 5 := ⟨by decide +kernel, rfl⟩
theorem d9_5 : DAt B9 5 (.aload_n 0) 1 6 := ⟨by decide +kernel, rfl⟩
theorem d9_6 : DAt B9 6 (.getfield 33) 3 9 := ⟨by decide +kernel, rfl⟩
theorem d9_9 : DAt B9 9 (.if_icmp .ge 7) 3 12 := ⟨by decide +kernel, rfl⟩
theorem d9_12 : DAt B9 12 (.iconst 1) 1 13 := ⟨by decide +kernel, rfl⟩
theorem d9_13 : DAt B9 13 (.goto 4) 3 16 := ⟨by decide +kernel, rfl⟩
theorem d9_16 : DAt B9 16 (.iconst 0) 1 17 := ⟨by decide +kernel, rfl⟩
theorem d9_17 : DAt B9 17 (.ireturn) 1 18 := ⟨by decide +kernel, rfl⟩
def B10 : Bdy := ((⟨"MirrorResync", "markDirty", "(I)V"⟩ : MethodName), prog_1_method_27_code, 2, none, ({ frames := 0, cells := 0, slots := 0, locals := 0 } : Room))
theorem d10_0 : DAt B10 0 (.aload_n 0) 1 1 := ⟨by decide +kernel, rfl⟩
theorem d10_1 : DAt B10 1 (.getfield 19) 3 4 := ⟨by decide +kernel, rfl⟩
theorem d10_4 : DAt B10 4 (.iload_n 1) 1 5 := ⟨by decide +kernel, rfl⟩
theorem d10_5 : DAt B10 5 (.iconst 1) 1 6 := ⟨by decide +kernel, rfl⟩
theorem d10_6 : DAt B10 6 (.bastore) 1 7 := ⟨by decide +kernel, rfl⟩
theorem d10_7 : DAt B10 7 (.aload_n 0) 1 8 := ⟨by decide +kernel, rfl⟩
theorem d10_8 : DAt B10 8 (.getfield 23) 3 11 := ⟨by decide +kernel, rfl⟩
theorem d10_11 : DAt B10 11 (.iload_n 1) 1 12 := ⟨by decide +kernel, rfl⟩
theorem d10_12 : DAt B10 12 (.iconst 0) 1 13 := ⟨by decide +kernel, rfl⟩
theorem d10_13 : DAt B10 13 (.bastore) 1 14 := ⟨by decide +kernel, rfl⟩
theorem d10_14 : DAt B10 14 (.aload_n 0) 1 15 := ⟨by decide +kernel, rfl⟩
theorem d10_15 : DAt B10 15 (.getfield 26) 3 18 := ⟨by decide +kernel, rfl⟩
theorem d10_18 : DAt B10 18 (.iload_n 1) 1 19 := ⟨by decide +kernel, rfl⟩
theorem d10_19 : DAt B10 19 (.iconst 0) 1 20 := ⟨by decide +kernel, rfl⟩
theorem d10_20 : DAt B10 20 (.iastore) 1 21 := ⟨by decide +kernel, rfl⟩
theorem d10_21 : DAt B10 21 (.return_) 1 22 := ⟨by decide +kernel, rfl⟩
def B5 : Bdy := ((⟨"MirrorResync", "write", "(II)I"⟩ : MethodName), prog_1_method_2_code, 3, (some .int), ({ frames := 1, cells := 0, slots := 0, locals := 13 } : Room))
theorem d5_0 : DAt B5 0 (.aload_n 0) 1 1 := ⟨by decide +kernel, rfl⟩
theorem d5_1 : DAt B5 1 (.getfield 46) 3 4 := ⟨by decide +kernel, rfl⟩
theorem d5_4 : DAt B5 4 (.ifCond .eq 5) 3 7 := ⟨by decide +kernel, rfl⟩
theorem d5_7 : DAt B5 7 (.iconst (-1)) 1 8 := ⟨by decide +kernel, rfl⟩
theorem d5_8 : DAt B5 8 (.ireturn) 1 9 := ⟨by decide +kernel, rfl⟩
theorem d5_9 : DAt B5 9 (.aload_n 0) 1 10 := ⟨by decide +kernel, rfl⟩
theorem d5_10 : DAt B5 10 (.iload_n 1) 1 11 := ⟨by decide +kernel, rfl⟩
theorem d5_11 : DAt B5 11 (.invokevirtual 62) 3 14 := ⟨by decide +kernel, rfl⟩
theorem d5_14 : DAt B5 14 (.ifCond .eq 13) 3 17 := ⟨by decide +kernel, rfl⟩
theorem d5_17 : DAt B5 17 (.iload_n 2) 1 18 := ⟨by decide +kernel, rfl⟩
theorem d5_18 : DAt B5 18 (.ifCond .lt 9) 3 21 := ⟨by decide +kernel, rfl⟩
theorem d5_21 : DAt B5 21 (.iload_n 2) 1 22 := ⟨by decide +kernel, rfl⟩
theorem d5_22 : DAt B5 22 (.ldc 66) 2 24 := ⟨by decide +kernel, rfl⟩
theorem d5_24 : DAt B5 24 (.if_icmp .le 6) 3 27 := ⟨by decide +kernel, rfl⟩
theorem d5_27 : DAt B5 27 (.bipush (-2)) 2 29 := ⟨by decide +kernel, rfl⟩
theorem d5_29 : DAt B5 29 (.ireturn) 1 30 := ⟨by decide +kernel, rfl⟩
theorem d5_30 : DAt B5 30 (.aload_n 0) 1 31 := ⟨by decide +kernel, rfl⟩
theorem d5_31 : DAt B5 31 (.getfield 50) 3 34 := ⟨by decide +kernel, rfl⟩
theorem d5_34 : DAt B5 34 (.ifCond .eq 6) 3 37 := ⟨by decide +kernel, rfl⟩
theorem d5_37 : DAt B5 37 (.bipush (-3)) 2 39 := ⟨by decide +kernel, rfl⟩
theorem d5_39 : DAt B5 39 (.ireturn) 1 40 := ⟨by decide +kernel, rfl⟩
theorem d5_40 : DAt B5 40 (.aload_n 0) 1 41 := ⟨by decide +kernel, rfl⟩
theorem d5_41 : DAt B5 41 (.iload_n 1) 1 42 := ⟨by decide +kernel, rfl⟩
theorem d5_42 : DAt B5 42 (.aload_n 0) 1 43 := ⟨by decide +kernel, rfl⟩
theorem d5_43 : DAt B5 43 (.getfield 37) 3 46 := ⟨by decide +kernel, rfl⟩
theorem d5_46 : DAt B5 46 (.idiv) 1 47 := ⟨by decide +kernel, rfl⟩
theorem d5_47 : DAt B5 47 (.invokevirtual 67) 3 50 := ⟨by decide +kernel, rfl⟩
theorem d5_50 : DAt B5 50 (.aload_n 0) 1 51 := ⟨by decide +kernel, rfl⟩
theorem d5_51 : DAt B5 51 (.iconst 1) 1 52 := ⟨by decide +kernel, rfl⟩
theorem d5_52 : DAt B5 52 (.putfield 50) 3 55 := ⟨by decide +kernel, rfl⟩
theorem d5_55 : DAt B5 55 (.aload_n 0) 1 56 := ⟨by decide +kernel, rfl⟩
theorem d5_56 : DAt B5 56 (.iload_n 1) 1 57 := ⟨by decide +kernel, rfl⟩
theorem d5_57 : DAt B5 57 (.putfield 53) 3 60 := ⟨by decide +kernel, rfl⟩
theorem d5_60 : DAt B5 60 (.aload_n 0) 1 61 := ⟨by decide +kernel, rfl⟩
theorem d5_61 : DAt B5 61 (.iload_n 2) 1 62 := ⟨by decide +kernel, rfl⟩
theorem d5_62 : DAt B5 62 (.putfield 56) 3 65 := ⟨by decide +kernel, rfl⟩
theorem d5_65 : DAt B5 65 (.aload_n 0) 1 66 := ⟨by decide +kernel, rfl⟩
theorem d5_66 : DAt B5 66 (.iconst 0) 1 67 := ⟨by decide +kernel, rfl⟩
theorem d5_67 : DAt B5 67 (.putfield 59) 3 70 := ⟨by decide +kernel, rfl⟩
theorem d5_70 : DAt B5 70 (.iconst 0) 1 71 := ⟨by decide +kernel, rfl⟩
theorem d5_71 : DAt B5 71 (.ireturn) 1 72 := ⟨by decide +kernel, rfl⟩
def B4 : Bdy := ((⟨"MirrorResync", "clearPending", "()V"⟩ : MethodName), prog_1_method_23_code, 1, none, ({ frames := 0, cells := 0, slots := 0, locals := 0 } : Room))
theorem d4_0 : DAt B4 0 (.aload_n 0) 1 1 := ⟨by decide +kernel, rfl⟩
theorem d4_1 : DAt B4 1 (.iconst 0) 1 2 := ⟨by decide +kernel, rfl⟩
theorem d4_2 : DAt B4 2 (.putfield 50) 3 5 := ⟨by decide +kernel, rfl⟩
theorem d4_5 : DAt B4 5 (.aload_n 0) 1 6 := ⟨by decide +kernel, rfl⟩
theorem d4_6 : DAt B4 6 (.iconst (-1)) 1 7 := ⟨by decide +kernel, rfl⟩
theorem d4_7 : DAt B4 7 (.putfield 53) 3 10 := ⟨by decide +kernel, rfl⟩
theorem d4_10 : DAt B4 10 (.aload_n 0) 1 11 := ⟨by decide +kernel, rfl⟩
theorem d4_11 : DAt B4 11 (.iconst 0) 1 12 := ⟨by decide +kernel, rfl⟩
theorem d4_12 : DAt B4 12 (.putfield 56) 3 15 := ⟨by decide +kernel, rfl⟩
theorem d4_15 : DAt B4 15 (.aload_n 0) 1 16 := ⟨by decide +kernel, rfl⟩
theorem d4_16 : DAt B4 16 (.iconst (-1)) 1 17 := ⟨by decide +kernel, rfl⟩
theorem d4_17 : DAt B4 17 (.putfield 59) 3 20 := ⟨by decide +kernel, rfl⟩
theorem d4_20 : DAt B4 20 (.return_) 1 21 := ⟨by decide +kernel, rfl⟩
def B3 : Bdy := ((⟨"MirrorResync", "crash", "()I"⟩ : MethodName), prog_1_method_4_code, 1, (some .int), ({ frames := 1, cells := 0, slots := 0, locals := 12 } : Room))
theorem d3_0 : DAt B3 0 (.aload_n 0) 1 1 := ⟨by decide +kernel, rfl⟩
theorem d3_1 : DAt B3 1 (.getfield 46) 3 4 := ⟨by decide +kernel, rfl⟩
theorem d3_4 : DAt B3 4 (.ifCond .eq 5) 3 7 := ⟨by decide +kernel, rfl⟩
theorem d3_7 : DAt B3 7 (.iconst (-1)) 1 8 := ⟨by decide +kernel, rfl⟩
theorem d3_8 : DAt B3 8 (.ireturn) 1 9 := ⟨by decide +kernel, rfl⟩
theorem d3_9 : DAt B3 9 (.aload_n 0) 1 10 := ⟨by decide +kernel, rfl⟩
theorem d3_10 : DAt B3 10 (.invokevirtual 74) 3 13 := ⟨by decide +kernel, rfl⟩
theorem d3_13 : DAt B3 13 (.aload_n 0) 1 14 := ⟨by decide +kernel, rfl⟩
theorem d3_14 : DAt B3 14 (.iconst 1) 1 15 := ⟨by decide +kernel, rfl⟩
theorem d3_15 : DAt B3 15 (.putfield 46) 3 18 := ⟨by decide +kernel, rfl⟩
theorem d3_18 : DAt B3 18 (.iconst 0) 1 19 := ⟨by decide +kernel, rfl⟩
theorem d3_19 : DAt B3 19 (.ireturn) 1 20 := ⟨by decide +kernel, rfl⟩
def B7 : Bdy := ((⟨"MirrorResync", "restart", "()I"⟩ : MethodName), prog_1_method_5_code, 1, (some .int), ({ frames := 0, cells := 0, slots := 0, locals := 0 } : Room))
theorem d7_0 : DAt B7 0 (.aload_n 0) 1 1 := ⟨by decide +kernel, rfl⟩
theorem d7_1 : DAt B7 1 (.getfield 46) 3 4 := ⟨by decide +kernel, rfl⟩
theorem d7_4 : DAt B7 4 (.ifCond .ne 6) 3 7 := ⟨by decide +kernel, rfl⟩
theorem d7_7 : DAt B7 7 (.bipush (-4)) 2 9 := ⟨by decide +kernel, rfl⟩
theorem d7_9 : DAt B7 9 (.ireturn) 1 10 := ⟨by decide +kernel, rfl⟩
theorem d7_10 : DAt B7 10 (.aload_n 0) 1 11 := ⟨by decide +kernel, rfl⟩
theorem d7_11 : DAt B7 11 (.iconst 0) 1 12 := ⟨by decide +kernel, rfl⟩
theorem d7_12 : DAt B7 12 (.putfield 46) 3 15 := ⟨by decide +kernel, rfl⟩
theorem d7_15 : DAt B7 15 (.aload_n 0) 1 16 := ⟨by decide +kernel, rfl⟩
theorem d7_16 : DAt B7 16 (.getfield 16) 3 19 := ⟨by decide +kernel, rfl⟩
theorem d7_19 : DAt B7 19 (.iconst 0) 1 20 := ⟨by decide +kernel, rfl⟩
theorem d7_20 : DAt B7 20 (.iaload) 1 21 := ⟨by decide +kernel, rfl⟩
theorem d7_21 : DAt B7 21 (.ifCond .ne 19) 3 24 := ⟨by decide +kernel, rfl⟩
theorem d7_24 : DAt B7 24 (.aload_n 0) 1 25 := ⟨by decide +kernel, rfl⟩
theorem d7_25 : DAt B7 25 (.getfield 16) 3 28 := ⟨by decide +kernel, rfl⟩
theorem d7_28 : DAt B7 28 (.iconst 1) 1 29 := ⟨by decide +kernel, rfl⟩
theorem d7_29 : DAt B7 29 (.iaload) 1 30 := ⟨by decide +kernel, rfl⟩
theorem d7_30 : DAt B7 30 (.ifCond .ne 10) 3 33 := ⟨by decide +kernel, rfl⟩
theorem d7_33 : DAt B7 33 (.aload_n 0) 1 34 := ⟨by decide +kernel, rfl⟩
theorem d7_34 : DAt B7 34 (.getfield 16) 3 37 := ⟨by decide +kernel, rfl⟩
theorem d7_37 : DAt B7 37 (.iconst 1) 1 38 := ⟨by decide +kernel, rfl⟩
theorem d7_38 : DAt B7 38 (.iconst 1) 1 39 := ⟨by decide +kernel, rfl⟩
theorem d7_39 : DAt B7 39 (.iastore) 1 40 := ⟨by decide +kernel, rfl⟩
theorem d7_40 : DAt B7 40 (.iconst 0) 1 41 := ⟨by decide +kernel, rfl⟩
theorem d7_41 : DAt B7 41 (.ireturn) 1 42 := ⟨by decide +kernel, rfl⟩
def B8 : Bdy := ((⟨"MirrorResync", "validLeg", "(I)Z"⟩ : MethodName), prog_1_method_19_code, 2, (some .boolean), ({ frames := 0, cells := 0, slots := 0, locals := 0 } : Room))
theorem d8_0 : DAt B8 0 (.iload_n 1) 1 1 := ⟨by decide +kernel, rfl⟩
theorem d8_1 : DAt B8 1 (.ifCond .eq 8) 3 4 := ⟨by decide +kernel, rfl⟩
theorem d8_4 : DAt B8 4 (.iload_n 1) 1 5 := ⟨by decide +kernel, rfl⟩
theorem d8_5 : DAt B8 5 (.iconst 1) 1 6 := ⟨by decide +kernel, rfl⟩
theorem d8_6 : DAt B8 6 (.if_icmp .ne 7) 3 9 := ⟨by decide +kernel, rfl⟩
theorem d8_9 : DAt B8 9 (.iconst 1) 1 10 := ⟨by decide +kernel, rfl⟩
theorem d8_10 : DAt B8 10 (.goto 4) 3 13 := ⟨by decide +kernel, rfl⟩
theorem d8_13 : DAt B8 13 (.iconst 0) 1 14 := ⟨by decide +kernel, rfl⟩
theorem d8_14 : DAt B8 14 (.ireturn) 1 15 := ⟨by decide +kernel, rfl⟩
def B6 : Bdy := ((⟨"MirrorResync", "failLeg", "(I)I"⟩ : MethodName), prog_1_method_6_code, 2, (some .int), ({ frames := 1, cells := 0, slots := 0, locals := 13 } : Room))
theorem d6_0 : DAt B6 0 (.aload_n 0) 1 1 := ⟨by decide +kernel, rfl⟩
theorem d6_1 : DAt B6 1 (.getfield 46) 3 4 := ⟨by decide +kernel, rfl⟩
theorem d6_4 : DAt B6 4 (.ifCond .eq 5) 3 7 := ⟨by decide +kernel, rfl⟩
theorem d6_7 : DAt B6 7 (.iconst (-1)) 1 8 := ⟨by decide +kernel, rfl⟩
theorem d6_8 : DAt B6 8 (.ireturn) 1 9 := ⟨by decide +kernel, rfl⟩
theorem d6_9 : DAt B6 9 (.aload_n 0) 1 10 := ⟨by decide +kernel, rfl⟩
theorem d6_10 : DAt B6 10 (.iload_n 1) 1 11 := ⟨by decide +kernel, rfl⟩
theorem d6_11 : DAt B6 11 (.invokevirtual 77) 3 14 := ⟨by decide +kernel, rfl⟩
theorem d6_14 : DAt B6 14 (.ifCond .ne 6) 3 17 := ⟨by decide +kernel, rfl⟩
theorem d6_17 : DAt B6 17 (.bipush (-2)) 2 19 := ⟨by decide +kernel, rfl⟩
theorem d6_19 : DAt B6 19 (.ireturn) 1 20 := ⟨by decide +kernel, rfl⟩
theorem d6_20 : DAt B6 20 (.aload_n 0) 1 21 := ⟨by decide +kernel, rfl⟩
theorem d6_21 : DAt B6 21 (.getfield 16) 3 24 := ⟨by decide +kernel, rfl⟩
theorem d6_24 : DAt B6 24 (.iload_n 1) 1 25 := ⟨by decide +kernel, rfl⟩
theorem d6_25 : DAt B6 25 (.iaload) 1 26 := ⟨by decide +kernel, rfl⟩
theorem d6_26 : DAt B6 26 (.iconst 2) 1 27 := ⟨by decide +kernel, rfl⟩
theorem d6_27 : DAt B6 27 (.if_icmp .ne 6) 3 30 := ⟨by decide +kernel, rfl⟩
theorem d6_30 : DAt B6 30 (.bipush (-4)) 2 32 := ⟨by decide +kernel, rfl⟩
theorem d6_32 : DAt B6 32 (.ireturn) 1 33 := ⟨by decide +kernel, rfl⟩
theorem d6_33 : DAt B6 33 (.aload_n 0) 1 34 := ⟨by decide +kernel, rfl⟩
theorem d6_34 : DAt B6 34 (.getfield 16) 3 37 := ⟨by decide +kernel, rfl⟩
theorem d6_37 : DAt B6 37 (.iconst 1) 1 38 := ⟨by decide +kernel, rfl⟩
theorem d6_38 : DAt B6 38 (.iload_n 1) 1 39 := ⟨by decide +kernel, rfl⟩
theorem d6_39 : DAt B6 39 (.isub) 1 40 := ⟨by decide +kernel, rfl⟩
theorem d6_40 : DAt B6 40 (.iaload) 1 41 := ⟨by decide +kernel, rfl⟩
theorem d6_41 : DAt B6 41 (.ifCond .eq 6) 3 44 := ⟨by decide +kernel, rfl⟩
theorem d6_44 : DAt B6 44 (.bipush (-4)) 2 46 := ⟨by decide +kernel, rfl⟩
theorem d6_46 : DAt B6 46 (.ireturn) 1 47 := ⟨by decide +kernel, rfl⟩
theorem d6_47 : DAt B6 47 (.aload_n 0) 1 48 := ⟨by decide +kernel, rfl⟩
theorem d6_48 : DAt B6 48 (.getfield 16) 3 51 := ⟨by decide +kernel, rfl⟩
theorem d6_51 : DAt B6 51 (.iload_n 1) 1 52 := ⟨by decide +kernel, rfl⟩
theorem d6_52 : DAt B6 52 (.iconst 2) 1 53 := ⟨by decide +kernel, rfl⟩
theorem d6_53 : DAt B6 53 (.iastore) 1 54 := ⟨by decide +kernel, rfl⟩
theorem d6_54 : DAt B6 54 (.iconst 0) 1 55 := ⟨by decide +kernel, rfl⟩
theorem d6_55 : DAt B6 55 (.ireturn) 1 56 := ⟨by decide +kernel, rfl⟩
def B24 : Bdy := ((⟨"MirrorResync", "checkDetached", "(I)I"⟩ : MethodName), prog_1_method_21_code, 2, (some .int), ({ frames := 1, cells := 0, slots := 0, locals := 13 } : Room))
theorem d24_0 : DAt B24 0 (.aload_n 0) 1 1 := ⟨by decide +kernel, rfl⟩
theorem d24_1 : DAt B24 1 (.getfield 46) 3 4 := ⟨by decide +kernel, rfl⟩
theorem d24_4 : DAt B24 4 (.ifCond .eq 5) 3 7 := ⟨by decide +kernel, rfl⟩
theorem d24_7 : DAt B24 7 (.iconst (-1)) 1 8 := ⟨by decide +kernel, rfl⟩
theorem d24_8 : DAt B24 8 (.ireturn) 1 9 := ⟨by decide +kernel, rfl⟩
theorem d24_9 : DAt B24 9 (.aload_n 0) 1 10 := ⟨by decide +kernel, rfl⟩
theorem d24_10 : DAt B24 10 (.iload_n 1) 1 11 := ⟨by decide +kernel, rfl⟩
theorem d24_11 : DAt B24 11 (.invokevirtual 77) 3 14 := ⟨by decide +kernel, rfl⟩
theorem d24_14 : DAt B24 14 (.ifCond .ne 6) 3 17 := ⟨by decide +kernel, rfl⟩
theorem d24_17 : DAt B24 17 (.bipush (-2)) 2 19 := ⟨by decide +kernel, rfl⟩
theorem d24_19 : DAt B24 19 (.ireturn) 1 20 := ⟨by decide +kernel, rfl⟩
theorem d24_20 : DAt B24 20 (.aload_n 0) 1 21 := ⟨by decide +kernel, rfl⟩
theorem d24_21 : DAt B24 21 (.getfield 50) 3 24 := ⟨by decide +kernel, rfl⟩
theorem d24_24 : DAt B24 24 (.ifCond .eq 6) 3 27 := ⟨by decide +kernel, rfl⟩
theorem d24_27 : DAt B24 27 (.bipush (-3)) 2 29 := ⟨by decide +kernel, rfl⟩
theorem d24_29 : DAt B24 29 (.ireturn) 1 30 := ⟨by decide +kernel, rfl⟩
theorem d24_30 : DAt B24 30 (.aload_n 0) 1 31 := ⟨by decide +kernel, rfl⟩
theorem d24_31 : DAt B24 31 (.getfield 16) 3 34 := ⟨by decide +kernel, rfl⟩
theorem d24_34 : DAt B24 34 (.iload_n 1) 1 35 := ⟨by decide +kernel, rfl⟩
theorem d24_35 : DAt B24 35 (.iaload) 1 36 := ⟨by decide +kernel, rfl⟩
theorem d24_36 : DAt B24 36 (.iconst 2) 1 37 := ⟨by decide +kernel, rfl⟩
theorem d24_37 : DAt B24 37 (.if_icmp .eq 6) 3 40 := ⟨by decide +kernel, rfl⟩
theorem d24_40 : DAt B24 40 (.bipush (-4)) 2 42 := ⟨by decide +kernel, rfl⟩
theorem d24_42 : DAt B24 42 (.ireturn) 1 43 := ⟨by decide +kernel, rfl⟩
theorem d24_43 : DAt B24 43 (.iconst 0) 1 44 := ⟨by decide +kernel, rfl⟩
theorem d24_44 : DAt B24 44 (.ireturn) 1 45 := ⟨by decide +kernel, rfl⟩
def B23 : Bdy := ((⟨"MirrorResync", "reattachLeg", "(I)I"⟩ : MethodName), prog_1_method_7_code, 3, (some .int), ({ frames := 2, cells := 0, slots := 0, locals := 26 } : Room))
theorem d23_0 : DAt B23 0 (.aload_n 0) 1 1 := ⟨by decide +kernel, rfl⟩
theorem d23_1 : DAt B23 1 (.iload_n 1) 1 2 := ⟨by decide +kernel, rfl⟩
theorem d23_2 : DAt B23 2 (.invokevirtual 80) 3 5 := ⟨by decide +kernel, rfl⟩
theorem d23_5 : DAt B23 5 (.istore_n 2) 1 6 := ⟨by decide +kernel, rfl⟩
theorem d23_6 : DAt B23 6 (.iload_n 2) 1 7 := ⟨by decide +kernel, rfl⟩
theorem d23_7 : DAt B23 7 (.ifCond .eq 5) 3 10 := ⟨by decide +kernel, rfl⟩
theorem d23_10 : DAt B23 10 (.iload_n 2) 1 11 := ⟨by decide +kernel, rfl⟩
theorem d23_11 : DAt B23 11 (.ireturn) 1 12 := ⟨by decide +kernel, rfl⟩
theorem d23_12 : DAt B23 12 (.aload_n 0) 1 13 := ⟨by decide +kernel, rfl⟩
theorem d23_13 : DAt B23 13 (.getfield 16) 3 16 := ⟨by decide +kernel, rfl⟩
theorem d23_16 : DAt B23 16 (.iload_n 1) 1 17 := ⟨by decide +kernel, rfl⟩
theorem d23_17 : DAt B23 17 (.iconst 1) 1 18 := ⟨by decide +kernel, rfl⟩
theorem d23_18 : DAt B23 18 (.iastore) 1 19 := ⟨by decide +kernel, rfl⟩
theorem d23_19 : DAt B23 19 (.iconst 0) 1 20 := ⟨by decide +kernel, rfl⟩
theorem d23_20 : DAt B23 20 (.ireturn) 1 21 := ⟨by decide +kernel, rfl⟩
def B31 : Bdy := ((⟨"MirrorResync", "zeroLeg", "(I)V"⟩ : MethodName), prog_1_method_30_code, 4, none, ({ frames := 0, cells := 0, slots := 0, locals := 0 } : Room))
theorem d31_0 : DAt B31 0 (.iload_n 1) 1 1 := ⟨by decide +kernel, rfl⟩
theorem d31_1 : DAt B31 1 (.bipush 32) 2 3 := ⟨by decide +kernel, rfl⟩
theorem d31_3 : DAt B31 3 (.imul) 1 4 := ⟨by decide +kernel, rfl⟩
theorem d31_4 : DAt B31 4 (.istore_n 2) 1 5 := ⟨by decide +kernel, rfl⟩
theorem d31_5 : DAt B31 5 (.iconst 0) 1 6 := ⟨by decide +kernel, rfl⟩
theorem d31_6 : DAt B31 6 (.istore_n 3) 1 7 := ⟨by decide +kernel, rfl⟩
theorem d31_7 : DAt B31 7 (.iload_n 3) 1 8 := ⟨by decide +kernel, rfl⟩
theorem d31_8 : DAt B31 8 (.aload_n 0) 1 9 := ⟨by decide +kernel, rfl⟩
theorem d31_9 : DAt B31 9 (.getfield 33) 3 12 := ⟨by decide +kernel, rfl⟩
theorem d31_12 : DAt B31 12 (.if_icmp .ge 18) 3 15 := ⟨by decide +kernel, rfl⟩
theorem d31_15 : DAt B31 15 (.aload_n 0) 1 16 := ⟨by decide +kernel, rfl⟩
theorem d31_16 : DAt B31 16 (.getfield 7) 3 19 := ⟨by decide +kernel, rfl⟩
theorem d31_19 : DAt B31 19 (.iload_n 2) 1 20 := ⟨by decide +kernel, rfl⟩
theorem d31_20 : DAt B31 20 (.iload_n 3) 1 21 := ⟨by decide +kernel, rfl⟩
theorem d31_21 : DAt B31 21 (.iadd) 1 22 := ⟨by decide +kernel, rfl⟩
theorem d31_22 : DAt B31 22 (.iconst 0) 1 23 := ⟨by decide +kernel, rfl⟩
theorem d31_23 : DAt B31 23 (.iastore) 1 24 := ⟨by decide +kernel, rfl⟩
theorem d31_24 : DAt B31 24 (.iinc 3 1) 3 27 := ⟨by decide +kernel, rfl⟩
theorem d31_27 : DAt B31 27 (.goto (-20)) 3 30 := ⟨by decide +kernel, rfl⟩
theorem d31_30 : DAt B31 30 (.return_) 1 31 := ⟨by decide +kernel, rfl⟩
def B32 : Bdy := ((⟨"MirrorResync", "markAllDirty", "()V"⟩ : MethodName), prog_1_method_28_code, 2, none, ({ frames := 1, cells := 0, slots := 0, locals := 13 } : Room))
theorem d32_0 : DAt B32 0 (.iconst 0) 1 1 := ⟨by decide +kernel, rfl⟩
theorem d32_1 : DAt B32 1 (.istore_n 1) 1 2 := ⟨by decide +kernel, rfl⟩
theorem d32_2 : DAt B32 2 (.iload_n 1) 1 3 := ⟨by decide +kernel, rfl⟩
theorem d32_3 : DAt B32 3 (.aload_n 0) 1 4 := ⟨by decide +kernel, rfl⟩
theorem d32_4 : DAt B32 4 (.getfield 43) 3 7 := ⟨by decide +kernel, rfl⟩
theorem d32_7 : DAt B32 7 (.if_icmp .ge 14) 3 10 := ⟨by decide +kernel, rfl⟩
theorem d32_10 : DAt B32 10 (.aload_n 0) 1 11 := ⟨by decide +kernel, rfl⟩
theorem d32_11 : DAt B32 11 (.iload_n 1) 1 12 := ⟨by decide +kernel, rfl⟩
theorem d32_12 : DAt B32 12 (.invokevirtual 67) 3 15 := ⟨by decide +kernel, rfl⟩
theorem d32_15 : DAt B32 15 (.iinc 1 1) 3 18 := ⟨by decide +kernel, rfl⟩
theorem d32_18 : DAt B32 18 (.goto (-16)) 3 21 := ⟨by decide +kernel, rfl⟩
theorem d32_21 : DAt B32 21 (.return_) 1 22 := ⟨by decide +kernel, rfl⟩
def B28 : Bdy := ((⟨"MirrorResync", "replaceLeg", "(I)I"⟩ : MethodName), prog_1_method_8_code, 3, (some .int), ({ frames := 2, cells := 0, slots := 0, locals := 26 } : Room))
theorem d28_0 : DAt B28 0 (.aload_n 0) 1 1 := ⟨by decide +kernel, rfl⟩
theorem d28_1 : DAt B28 1 (.iload_n 1) 1 2 := ⟨by decide +kernel, rfl⟩
theorem d28_2 : DAt B28 2 (.invokevirtual 80) 3 5 := ⟨by decide +kernel, rfl⟩
theorem d28_5 : DAt B28 5 (.istore_n 2) 1 6 := ⟨by decide +kernel, rfl⟩
theorem d28_6 : DAt B28 6 (.iload_n 2) 1 7 := ⟨by decide +kernel, rfl⟩
theorem d28_7 : DAt B28 7 (.ifCond .eq 5) 3 10 := ⟨by decide +kernel, rfl⟩
theorem d28_10 : DAt B28 10 (.iload_n 2) 1 11 := ⟨by decide +kernel, rfl⟩
theorem d28_11 : DAt B28 11 (.ireturn) 1 12 := ⟨by decide +kernel, rfl⟩
theorem d28_12 : DAt B28 12 (.aload_n 0) 1 13 := ⟨by decide +kernel, rfl⟩
theorem d28_13 : DAt B28 13 (.iload_n 1) 1 14 := ⟨by decide +kernel, rfl⟩
theorem d28_14 : DAt B28 14 (.invokevirtual 84) 3 17 := ⟨by decide +kernel, rfl⟩
theorem d28_17 : DAt B28 17 (.aload_n 0) 1 18 := ⟨by decide +kernel, rfl⟩
theorem d28_18 : DAt B28 18 (.invokevirtual 87) 3 21 := ⟨by decide +kernel, rfl⟩
theorem d28_21 : DAt B28 21 (.aload_n 0) 1 22 := ⟨by decide +kernel, rfl⟩
theorem d28_22 : DAt B28 22 (.getfield 16) 3 25 := ⟨by decide +kernel, rfl⟩
theorem d28_25 : DAt B28 25 (.iload_n 1) 1 26 := ⟨by decide +kernel, rfl⟩
theorem d28_26 : DAt B28 26 (.iconst 1) 1 27 := ⟨by decide +kernel, rfl⟩
theorem d28_27 : DAt B28 27 (.iastore) 1 28 := ⟨by decide +kernel, rfl⟩
theorem d28_28 : DAt B28 28 (.iconst 0) 1 29 := ⟨by decide +kernel, rfl⟩
theorem d28_29 : DAt B28 29 (.ireturn) 1 30 := ⟨by decide +kernel, rfl⟩
def B19 : Bdy := ((⟨"MirrorResync", "staleLeg", "()I"⟩ : MethodName), prog_1_method_22_code, 1, (some .int), ({ frames := 0, cells := 0, slots := 0, locals := 0 } : Room))
theorem d19_0 : DAt B19 0 (.aload_n 0) 1 1 := ⟨by decide +kernel, rfl⟩
theorem d19_1 : DAt B19 1 (.getfield 16) 3 4 := ⟨by decide +kernel, rfl⟩
theorem d19_4 : DAt B19 4 (.iconst 0) 1 5 := ⟨by decide +kernel, rfl⟩
theorem d19_5 : DAt B19 5 (.iaload) 1 6 := ⟨by decide +kernel, rfl⟩
theorem d19_6 : DAt B19 6 (.iconst 1) 1 7 := ⟨by decide +kernel, rfl⟩
theorem d19_7 : DAt B19 7 (.if_icmp .ne 5) 3 10 := ⟨by decide +kernel, rfl⟩
theorem d19_10 : DAt B19 10 (.iconst 0) 1 11 := ⟨by decide +kernel, rfl⟩
theorem d19_11 : DAt B19 11 (.ireturn) 1 12 := ⟨by decide +kernel, rfl⟩
theorem d19_12 : DAt B19 12 (.aload_n 0) 1 13 := ⟨by decide +kernel, rfl⟩
theorem d19_13 : DAt B19 13 (.getfield 16) 3 16 := ⟨by decide +kernel, rfl⟩
theorem d19_16 : DAt B19 16 (.iconst 1) 1 17 := ⟨by decide +kernel, rfl⟩
theorem d19_17 : DAt B19 17 (.iaload) 1 18 := ⟨by decide +kernel, rfl⟩
theorem d19_18 : DAt B19 18 (.iconst 1) 1 19 := ⟨by decide +kernel, rfl⟩
theorem d19_19 : DAt B19 19 (.if_icmp .ne 5) 3 22 := ⟨by decide +kernel, rfl⟩
theorem d19_22 : DAt B19 22 (.iconst 1) 1 23 := ⟨by decide +kernel, rfl⟩
theorem d19_23 : DAt B19 23 (.ireturn) 1 24 := ⟨by decide +kernel, rfl⟩
theorem d19_24 : DAt B19 24 (.iconst (-1)) 1 25 := ⟨by decide +kernel, rfl⟩
theorem d19_25 : DAt B19 25 (.ireturn) 1 26 := ⟨by decide +kernel, rfl⟩
def B29 : Bdy := ((⟨"MirrorResync", "copyDirtyRegions", "(II)V"⟩ : MethodName), prog_1_method_31_code, 9, none, ({ frames := 0, cells := 0, slots := 0, locals := 0 } : Room))
theorem d29_0 : DAt B29 0 (.iload_n 1) 1 1 := ⟨by decide +kernel, rfl⟩
theorem d29_1 : DAt B29 1 (.bipush 32) 2 3 := ⟨by decide +kernel, rfl⟩
theorem d29_3 : DAt B29 3 (.imul) 1 4 := ⟨by decide +kernel, rfl⟩
theorem d29_4 : DAt B29 4 (.istore_n 3) 1 5 := ⟨by decide +kernel, rfl⟩
theorem d29_5 : DAt B29 5 (.iload_n 2) 1 6 := ⟨by decide +kernel, rfl⟩
theorem d29_6 : DAt B29 6 (.bipush 32) 2 8 := ⟨by decide +kernel, rfl⟩
theorem d29_8 : DAt B29 8 (.imul) 1 9 := ⟨by decide +kernel, rfl⟩
theorem d29_9 : DAt B29 9 (.istore 4) 2 11 := ⟨by decide +kernel, rfl⟩
theorem d29_11 : DAt B29 11 (.iconst 0) 1 12 := ⟨by decide +kernel, rfl⟩
theorem d29_12 : DAt B29 12 (.istore 5) 2 14 := ⟨by decide +kernel, rfl⟩
theorem d29_14 : DAt B29 14 (.iload 5) 2 16 := ⟨by decide +kernel, rfl⟩
theorem d29_16 : DAt B29 16 (.aload_n 0) 1 17 := ⟨by decide +kernel, rfl⟩
theorem d29_17 : DAt B29 17 (.getfield 43) 3 20 := ⟨by decide +kernel, rfl⟩
theorem d29_20 : DAt B29 20 (.if_icmp .ge 91) 3 23 := ⟨by decide +kernel, rfl⟩
theorem d29_23 : DAt B29 23 (.aload_n 0) 1 24 := ⟨by decide +kernel, rfl⟩
theorem d29_24 : DAt B29 24 (.getfield 19) 3 27 := ⟨by decide +kernel, rfl⟩
theorem d29_27 : DAt B29 27 (.iload 5) 2 29 := ⟨by decide +kernel, rfl⟩
theorem d29_29 : DAt B29 29 (.baload) 1 30 := ⟨by decide +kernel, rfl⟩
theorem d29_30 : DAt B29 30 (.ifCond .ne 6) 3 33 := ⟨by decide +kernel, rfl⟩
theorem d29_33 : DAt B29 33 (.goto 72) 3 36 := ⟨by decide +kernel, rfl⟩
theorem d29_36 : DAt B29 36 (.iload 5) 2 38 := ⟨by decide +kernel, rfl⟩
theorem d29_38 : DAt B29 38 (.aload_n 0) 1 39 := ⟨by decide +kernel, rfl⟩
theorem d29_39 : DAt B29 39 (.getfield 37) 3 42 := ⟨by decide +kernel, rfl⟩
theorem d29_42 : DAt B29 42 (.imul) 1 43 := ⟨by decide +kernel, rfl⟩
theorem d29_43 : DAt B29 43 (.istore 6) 2 45 := ⟨by decide +kernel, rfl⟩
theorem d29_45 : DAt B29 45 (.iload 6) 2 47 := ⟨by decide +kernel, rfl⟩
theorem d29_47 : DAt B29 47 (.aload_n 0) 1 48 := ⟨by decide +kernel, rfl⟩
theorem d29_48 : DAt B29 48 (.getfield 37) 3 51 := ⟨by decide +kernel, rfl⟩
theorem d29_51 : DAt B29 51 (.iadd) 1 52 := ⟨by decide +kernel, rfl⟩
theorem d29_52 : DAt B29 52 (.istore 7) 2 54 := ⟨by decide +kernel, rfl⟩
theorem d29_54 : DAt B29 54 (.iload 7) 2 56 := ⟨by decide +kernel, rfl⟩
theorem d29_56 : DAt B29 56 (.aload_n 0) 1 57 := ⟨by decide +kernel, rfl⟩
theorem d29_57 : DAt B29 57 (.getfield 33) 3 60 := ⟨by decide +kernel, rfl⟩
theorem d29_60 : DAt B29 60 (.if_icmp .le 9) 3 63 := ⟨by decide +kernel, rfl⟩
theorem d29_63 : DAt B29 63 (.aload_n 0) 1 64 := ⟨by decide +kernel, rfl⟩
theorem d29_64 : DAt B29 64 (.getfield 33) 3 67 := ⟨by decide +kernel, rfl⟩
theorem d29_67 : DAt B29 67 (.istore 7) 2 69 := ⟨by decide +kernel, rfl⟩
theorem d29_69 : DAt B29 69 (.iload 6) 2 71 := ⟨by decide +kernel, rfl⟩
theorem d29_71 : DAt B29 71 (.istore 8) 2 73 := ⟨by decide +kernel, rfl⟩
theorem d29_73 : DAt B29 73 (.iload 8) 2 75 := ⟨by decide +kernel, rfl⟩
theorem d29_75 : DAt B29 75 (.iload 7) 2 77 := ⟨by decide +kernel, rfl⟩
theorem d29_77 : DAt B29 77 (.if_icmp .ge 28) 3 80 := ⟨by decide +kernel, rfl⟩
theorem d29_80 : DAt B29 80 (.aload_n 0) 1 81 := ⟨by decide +kernel, rfl⟩
theorem d29_81 : DAt B29 81 (.getfield 7) 3 84 := ⟨by decide +kernel, rfl⟩
theorem d29_84 : DAt B29 84 (.iload 4) 2 86 := ⟨by decide +kernel, rfl⟩
theorem d29_86 : DAt B29 86 (.iload 8) 2 88 := ⟨by decide +kernel, rfl⟩
theorem d29_88 : DAt B29 88 (.iadd) 1 89 := ⟨by decide +kernel, rfl⟩
theorem d29_89 : DAt B29 89 (.aload_n 0) 1 90 := ⟨by decide +kernel, rfl⟩
theorem d29_90 : DAt B29 90 (.getfield 7) 3 93 := ⟨by decide +kernel, rfl⟩
theorem d29_93 : DAt B29 93 (.iload_n 3) 1 94 := ⟨by decide +kernel, rfl⟩
theorem d29_94 : DAt B29 94 (.iload 8) 2 96 := ⟨by decide +kernel, rfl⟩
theorem d29_96 : DAt B29 96 (.iadd) 1 97 := ⟨by decide +kernel, rfl⟩
theorem d29_97 : DAt B29 97 (.iaload) 1 98 := ⟨by decide +kernel, rfl⟩
theorem d29_98 : DAt B29 98 (.iastore) 1 99 := ⟨by decide +kernel, rfl⟩
theorem d29_99 : DAt B29 99 (.iinc 8 1) 3 102 := ⟨by decide +kernel, rfl⟩
theorem d29_102 : DAt B29 102 (.goto (-29)) 3 105 := ⟨by decide +kernel, rfl⟩
theorem d29_105 : DAt B29 105 (.iinc 5 1) 3 108 := ⟨by decide +kernel, rfl⟩
theorem d29_108 : DAt B29 108 (.goto (-94)) 3 111 := ⟨by decide +kernel, rfl⟩
theorem d29_111 : DAt B29 111 (.return_) 1 112 := ⟨by decide +kernel, rfl⟩
def B30 : Bdy := ((⟨"MirrorResync", "clearBitmap", "()V"⟩ : MethodName), prog_1_method_29_code, 2, none, ({ frames := 0, cells := 0, slots := 0, locals := 0 } : Room))
theorem d30_0 : DAt B30 0 (.iconst 0) 1 1 := ⟨by decide +kernel, rfl⟩
theorem d30_1 : DAt B30 1 (.istore_n 1) 1 2 := ⟨by decide +kernel, rfl⟩
theorem d30_2 : DAt B30 2 (.iload_n 1) 1 3 := ⟨by decide +kernel, rfl⟩
theorem d30_3 : DAt B30 3 (.bipush 32) 2 5 := ⟨by decide +kernel, rfl⟩
theorem d30_5 : DAt B30 5 (.if_icmp .ge 30) 3 8 := ⟨by decide +kernel, rfl⟩
theorem d30_8 : DAt B30 8 (.aload_n 0) 1 9 := ⟨by decide +kernel, rfl⟩
theorem d30_9 : DAt B30 9 (.getfield 19) 3 12 := ⟨by decide +kernel, rfl⟩
theorem d30_12 : DAt B30 12 (.iload_n 1) 1 13 := ⟨by decide +kernel, rfl⟩
theorem d30_13 : DAt B30 13 (.iconst 0) 1 14 := ⟨by decide +kernel, rfl⟩
theorem d30_14 : DAt B30 14 (.bastore) 1 15 := ⟨by decide +kernel, rfl⟩
theorem d30_15 : DAt B30 15 (.aload_n 0) 1 16 := ⟨by decide +kernel, rfl⟩
theorem d30_16 : DAt B30 16 (.getfield 23) 3 19 := ⟨by decide +kernel, rfl⟩
theorem d30_19 : DAt B30 19 (.iload_n 1) 1 20 := ⟨by decide +kernel, rfl⟩
theorem d30_20 : DAt B30 20 (.iconst 0) 1 21 := ⟨by decide +kernel, rfl⟩
theorem d30_21 : DAt B30 21 (.bastore) 1 22 := ⟨by decide +kernel, rfl⟩
theorem d30_22 : DAt B30 22 (.aload_n 0) 1 23 := ⟨by decide +kernel, rfl⟩
theorem d30_23 : DAt B30 23 (.getfield 26) 3 26 := ⟨by decide +kernel, rfl⟩
theorem d30_26 : DAt B30 26 (.iload_n 1) 1 27 := ⟨by decide +kernel, rfl⟩
theorem d30_27 : DAt B30 27 (.iconst 0) 1 28 := ⟨by decide +kernel, rfl⟩
theorem d30_28 : DAt B30 28 (.iastore) 1 29 := ⟨by decide +kernel, rfl⟩
theorem d30_29 : DAt B30 29 (.iinc 1 1) 3 32 := ⟨by decide +kernel, rfl⟩
theorem d30_32 : DAt B30 32 (.goto (-30)) 3 35 := ⟨by decide +kernel, rfl⟩
theorem d30_35 : DAt B30 35 (.return_) 1 36 := ⟨by decide +kernel, rfl⟩
def B18 : Bdy := ((⟨"MirrorResync", "resync", "()I"⟩ : MethodName), prog_1_method_9_code, 2, (some .int), ({ frames := 1, cells := 0, slots := 0, locals := 20 } : Room))
theorem d18_0 : DAt B18 0 (.aload_n 0) 1 1 := ⟨by decide +kernel, rfl⟩
theorem d18_1 : DAt B18 1 (.getfield 46) 3 4 := ⟨by decide +kernel, rfl⟩
theorem d18_4 : DAt B18 4 (.ifCond .eq 5) 3 7 := ⟨by decide +kernel, rfl⟩
theorem d18_7 : DAt B18 7 (.iconst (-1)) 1 8 := ⟨by decide +kernel, rfl⟩
theorem d18_8 : DAt B18 8 (.ireturn) 1 9 := ⟨by decide +kernel, rfl⟩
theorem d18_9 : DAt B18 9 (.aload_n 0) 1 10 := ⟨by decide +kernel, rfl⟩
theorem d18_10 : DAt B18 10 (.getfield 50) 3 13 := ⟨by decide +kernel, rfl⟩
theorem d18_13 : DAt B18 13 (.ifCond .eq 6) 3 16 := ⟨by decide +kernel, rfl⟩
theorem d18_16 : DAt B18 16 (.bipush (-3)) 2 18 := ⟨by decide +kernel, rfl⟩
theorem d18_18 : DAt B18 18 (.ireturn) 1 19 := ⟨by decide +kernel, rfl⟩
theorem d18_19 : DAt B18 19 (.aload_n 0) 1 20 := ⟨by decide +kernel, rfl⟩
theorem d18_20 : DAt B18 20 (.invokevirtual 90) 3 23 := ⟨by decide +kernel, rfl⟩
theorem d18_23 : DAt B18 23 (.istore_n 1) 1 24 := ⟨by decide +kernel, rfl⟩
theorem d18_24 : DAt B18 24 (.iload_n 1) 1 25 := ⟨by decide +kernel, rfl⟩
theorem d18_25 : DAt B18 25 (.iconst (-1)) 1 26 := ⟨by decide +kernel, rfl⟩
theorem d18_26 : DAt B18 26 (.if_icmp .ne 6) 3 29 := ⟨by decide +kernel, rfl⟩
theorem d18_29 : DAt B18 29 (.bipush (-4)) 2 31 := ⟨by decide +kernel, rfl⟩
theorem d18_31 : DAt B18 31 (.ireturn) 1 32 := ⟨by decide +kernel, rfl⟩
theorem d18_32 : DAt B18 32 (.aload_n 0) 1 33 := ⟨by decide +kernel, rfl⟩
theorem d18_33 : DAt B18 33 (.iconst 1) 1 34 := ⟨by decide +kernel, rfl⟩
theorem d18_34 : DAt B18 34 (.iload_n 1) 1 35 := ⟨by decide +kernel, rfl⟩
theorem d18_35 : DAt B18 35 (.isub) 1 36 := ⟨by decide +kernel, rfl⟩
theorem d18_36 : DAt B18 36 (.iload_n 1) 1 37 := ⟨by decide +kernel, rfl⟩
theorem d18_37 : DAt B18 37 (.invokevirtual 94) 3 40 := ⟨by decide +kernel, rfl⟩
theorem d18_40 : DAt B18 40 (.aload_n 0) 1 41 := ⟨by decide +kernel, rfl⟩
theorem d18_41 : DAt B18 41 (.invokevirtual 98) 3 44 := ⟨by decide +kernel, rfl⟩
theorem d18_44 : DAt B18 44 (.aload_n 0) 1 45 := ⟨by decide +kernel, rfl⟩
theorem d18_45 : DAt B18 45 (.getfield 16) 3 48 := ⟨by decide +kernel, rfl⟩
theorem d18_48 : DAt B18 48 (.iload_n 1) 1 49 := ⟨by decide +kernel, rfl⟩
theorem d18_49 : DAt B18 49 (.iconst 0) 1 50 := ⟨by decide +kernel, rfl⟩
theorem d18_50 : DAt B18 50 (.iastore) 1 51 := ⟨by decide +kernel, rfl⟩
theorem d18_51 : DAt B18 51 (.iconst 0) 1 52 := ⟨by decide +kernel, rfl⟩
theorem d18_52 : DAt B18 52 (.ireturn) 1 53 := ⟨by decide +kernel, rfl⟩
def B12 : Bdy := ((⟨"MirrorResync", "isDown", "()Z"⟩ : MethodName), prog_1_method_15_code, 1, (some .boolean), ({ frames := 0, cells := 0, slots := 0, locals := 0 } : Room))
theorem d12_0 : DAt B12 0 (.aload_n 0) 1 1 := ⟨by decide +kernel, rfl⟩
theorem d12_1 : DAt B12 1 (.getfield 46) 3 4 := ⟨by decide +kernel, rfl⟩
theorem d12_4 : DAt B12 4 (.ireturn) 1 5 := ⟨by decide +kernel, rfl⟩
def B13 : Bdy := ((⟨"MirrorResync", "pendingBlock", "()I"⟩ : MethodName), prog_1_method_13_code, 1, (some .int), ({ frames := 0, cells := 0, slots := 0, locals := 0 } : Room))
theorem d13_0 : DAt B13 0 (.aload_n 0) 1 1 := ⟨by decide +kernel, rfl⟩
theorem d13_1 : DAt B13 1 (.getfield 50) 3 4 := ⟨by decide +kernel, rfl⟩
theorem d13_4 : DAt B13 4 (.ifCond .eq 10) 3 7 := ⟨by decide +kernel, rfl⟩
theorem d13_7 : DAt B13 7 (.aload_n 0) 1 8 := ⟨by decide +kernel, rfl⟩
theorem d13_8 : DAt B13 8 (.getfield 53) 3 11 := ⟨by decide +kernel, rfl⟩
theorem d13_11 : DAt B13 11 (.goto 4) 3 14 := ⟨by decide +kernel, rfl⟩
theorem d13_14 : DAt B13 14 (.iconst (-1)) 1 15 := ⟨by decide +kernel, rfl⟩
theorem d13_15 : DAt B13 15 (.ireturn) 1 16 := ⟨by decide +kernel, rfl⟩
def B26 : Bdy := ((⟨"MirrorResync", "ageOthers", "(I)V"⟩ : MethodName), prog_1_method_25_code, 3, none, ({ frames := 0, cells := 0, slots := 0, locals := 0 } : Room))
theorem d26_0 : DAt B26 0 (.iconst 0) 1 1 := ⟨by decide +kernel, rfl⟩
theorem d26_1 : DAt B26 1 (.istore_n 2) 1 2 := ⟨by decide +kernel, rfl⟩
theorem d26_2 : DAt B26 2 (.iload_n 2) 1 3 := ⟨by decide +kernel, rfl⟩
theorem d26_3 : DAt B26 3 (.aload_n 0) 1 4 := ⟨by decide +kernel, rfl⟩
theorem d26_4 : DAt B26 4 (.getfield 43) 3 7 := ⟨by decide +kernel, rfl⟩
theorem d26_7 : DAt B26 7 (.if_icmp .ge 46) 3 10 := ⟨by decide +kernel, rfl⟩
theorem d26_10 : DAt B26 10 (.iload_n 2) 1 11 := ⟨by decide +kernel, rfl⟩
theorem d26_11 : DAt B26 11 (.iload_n 1) 1 12 := ⟨by decide +kernel, rfl⟩
theorem d26_12 : DAt B26 12 (.if_icmp .eq 35) 3 15 := ⟨by decide +kernel, rfl⟩
theorem d26_15 : DAt B26 15 (.aload_n 0) 1 16 := ⟨by decide +kernel, rfl⟩
theorem d26_16 : DAt B26 16 (.getfield 23) 3 19 := ⟨by decide +kernel, rfl⟩
theorem d26_19 : DAt B26 19 (.iload_n 2) 1 20 := ⟨by decide +kernel, rfl⟩
theorem d26_20 : DAt B26 20 (.baload) 1 21 := ⟨by decide +kernel, rfl⟩
theorem d26_21 : DAt B26 21 (.ifCond .eq 26) 3 24 := ⟨by decide +kernel, rfl⟩
theorem d26_24 : DAt B26 24 (.aload_n 0) 1 25 := ⟨by decide +kernel, rfl⟩
theorem d26_25 : DAt B26 25 (.getfield 26) 3 28 := ⟨by decide +kernel, rfl⟩
theorem d26_28 : DAt B26 28 (.iload_n 2) 1 29 := ⟨by decide +kernel, rfl⟩
theorem d26_29 : DAt B26 29 (.iaload) 1 30 := ⟨by decide +kernel, rfl⟩
theorem d26_30 : DAt B26 30 (.aload_n 0) 1 31 := ⟨by decide +kernel, rfl⟩
theorem d26_31 : DAt B26 31 (.getfield 40) 3 34 := ⟨by decide +kernel, rfl⟩
theorem d26_34 : DAt B26 34 (.if_icmp .ge 13) 3 37 := ⟨by decide +kernel, rfl⟩
theorem d26_37 : DAt B26 37 (.aload_n 0) 1 38 := ⟨by decide +kernel, rfl⟩
theorem d26_38 : DAt B26 38 (.getfield 26) 3 41 := ⟨by decide +kernel, rfl⟩
theorem d26_41 : DAt B26 41 (.iload_n 2) 1 42 := ⟨by decide +kernel, rfl⟩
theorem d26_42 : DAt B26 42 (.dup2) 1 43 := ⟨by decide +kernel, rfl⟩
theorem d26_43 : DAt B26 43 (.iaload) 1 44 := ⟨by decide +kernel, rfl⟩
theorem d26_44 : DAt B26 44 (.iconst 1) 1 45 := ⟨by decide +kernel, rfl⟩
theorem d26_45 : DAt B26 45 (.iadd) 1 46 := ⟨by decide +kernel, rfl⟩
theorem d26_46 : DAt B26 46 (.iastore) 1 47 := ⟨by decide +kernel, rfl⟩
theorem d26_47 : DAt B26 47 (.iinc 2 1) 3 50 := ⟨by decide +kernel, rfl⟩
theorem d26_50 : DAt B26 50 (.goto (-48)) 3 53 := ⟨by decide +kernel, rfl⟩
theorem d26_53 : DAt B26 53 (.return_) 1 54 := ⟨by decide +kernel, rfl⟩
def B27 : Bdy := ((⟨"MirrorResync", "bothActive", "()Z"⟩ : MethodName), prog_1_method_20_code, 1, (some .boolean), ({ frames := 0, cells := 0, slots := 0, locals := 0 } : Room))
theorem d27_0 : DAt B27 0 (.aload_n 0) 1 1 := ⟨by decide +kernel, rfl⟩
theorem d27_1 : DAt B27 1 (.getfield 16) 3 4 := ⟨by decide +kernel, rfl⟩
theorem d27_4 : DAt B27 4 (.iconst 0) 1 5 := ⟨by decide +kernel, rfl⟩
theorem d27_5 : DAt B27 5 (.iaload) 1 6 := ⟨by decide +kernel, rfl⟩
theorem d27_6 : DAt B27 6 (.ifCond .ne 16) 3 9 := ⟨by decide +kernel, rfl⟩
theorem d27_9 : DAt B27 9 (.aload_n 0) 1 10 := ⟨by decide +kernel, rfl⟩
theorem d27_10 : DAt B27 10 (.getfield 16) 3 13 := ⟨by decide +kernel, rfl⟩
theorem d27_13 : DAt B27 13 (.iconst 1) 1 14 := ⟨by decide +kernel, rfl⟩
theorem d27_14 : DAt B27 14 (.iaload) 1 15 := ⟨by decide +kernel, rfl⟩
theorem d27_15 : DAt B27 15 (.ifCond .ne 7) 3 18 := ⟨by decide +kernel, rfl⟩
theorem d27_18 : DAt B27 18 (.iconst 1) 1 19 := ⟨by decide +kernel, rfl⟩
theorem d27_19 : DAt B27 19 (.goto 4) 3 22 := ⟨by decide +kernel, rfl⟩
theorem d27_22 : DAt B27 22 (.iconst 0) 1 23 := ⟨by decide +kernel, rfl⟩
theorem d27_23 : DAt B27 23 (.ireturn) 1 24 := ⟨by decide +kernel, rfl⟩
def B33 : Bdy := ((⟨"MirrorResync", "clearAged", "()V"⟩ : MethodName), prog_1_method_26_code, 2, none, ({ frames := 0, cells := 0, slots := 0, locals := 0 } : Room))
theorem d33_0 : DAt B33 0 (.iconst 0) 1 1 := ⟨by decide +kernel, rfl⟩
theorem d33_1 : DAt B33 1 (.istore_n 1) 1 2 := ⟨by decide +kernel, rfl⟩
theorem d33_2 : DAt B33 2 (.iload_n 1) 1 3 := ⟨by decide +kernel, rfl⟩
theorem d33_3 : DAt B33 3 (.aload_n 0) 1 4 := ⟨by decide +kernel, rfl⟩
theorem d33_4 : DAt B33 4 (.getfield 43) 3 7 := ⟨by decide +kernel, rfl⟩
theorem d33_7 : DAt B33 7 (.if_icmp .ge 61) 3 10 := ⟨by decide +kernel, rfl⟩
theorem d33_10 : DAt B33 10 (.aload_n 0) 1 11 := ⟨by decide +kernel, rfl⟩
theorem d33_11 : DAt B33 11 (.getfield 19) 3 14 := ⟨by decide +kernel, rfl⟩
theorem d33_14 : DAt B33 14 (.iload_n 1) 1 15 := ⟨by decide +kernel, rfl⟩
theorem d33_15 : DAt B33 15 (.baload) 1 16 := ⟨by decide +kernel, rfl⟩
theorem d33_16 : DAt B33 16 (.ifCond .eq 46) 3 19 := ⟨by decide +kernel, rfl⟩
theorem d33_19 : DAt B33 19 (.aload_n 0) 1 20 := ⟨by decide +kernel, rfl⟩
theorem d33_20 : DAt B33 20 (.getfield 23) 3 23 := ⟨by decide +kernel, rfl⟩
theorem d33_23 : DAt B33 23 (.iload_n 1) 1 24 := ⟨by decide +kernel, rfl⟩
theorem d33_24 : DAt B33 24 (.baload) 1 25 := ⟨by decide +kernel, rfl⟩
theorem d33_25 : DAt B33 25 (.ifCond .eq 37) 3 28 := ⟨by decide +kernel, rfl⟩
theorem d33_28 : DAt B33 28 (.aload_n 0) 1 29 := ⟨by decide +kernel, rfl⟩
theorem d33_29 : DAt B33 29 (.getfield 26) 3 32 := ⟨by decide +kernel, rfl⟩
theorem d33_32 : DAt B33 32 (.iload_n 1) 1 33 := ⟨by decide +kernel, rfl⟩
theorem d33_33 : DAt B33 33 (.iaload) 1 34 := ⟨by decide +kernel, rfl⟩
theorem d33_34 : DAt B33 34 (.aload_n 0) 1 35 := ⟨by decide +kernel, rfl⟩
theorem d33_35 : DAt B33 35 (.getfield 40) 3 38 := ⟨by decide +kernel, rfl⟩
theorem d33_38 : DAt B33 38 (.if_icmp .lt 24) 3 41 := ⟨by decide +kernel, rfl⟩
theorem d33_41 : DAt B33 41 (.aload_n 0) 1 42 := ⟨by decide +kernel, rfl⟩
theorem d33_42 : DAt B33 42 (.getfield 19) 3 45 := ⟨by decide +kernel, rfl⟩
theorem d33_45 : DAt B33 45 (.iload_n 1) 1 46 := ⟨by decide +kernel, rfl⟩
theorem d33_46 : DAt B33 46 (.iconst 0) 1 47 := ⟨by decide +kernel, rfl⟩
theorem d33_47 : DAt B33 47 (.bastore) 1 48 := ⟨by decide +kernel, rfl⟩
theorem d33_48 : DAt B33 48 (.aload_n 0) 1 49 := ⟨by decide +kernel, rfl⟩
theorem d33_49 : DAt B33 49 (.getfield 23) 3 52 := ⟨by decide +kernel, rfl⟩
theorem d33_52 : DAt B33 52 (.iload_n 1) 1 53 := ⟨by decide +kernel, rfl⟩
theorem d33_53 : DAt B33 53 (.iconst 0) 1 54 := ⟨by decide +kernel, rfl⟩
theorem d33_54 : DAt B33 54 (.bastore) 1 55 := ⟨by decide +kernel, rfl⟩
theorem d33_55 : DAt B33 55 (.aload_n 0) 1 56 := ⟨by decide +kernel, rfl⟩
theorem d33_56 : DAt B33 56 (.getfield 26) 3 59 := ⟨by decide +kernel, rfl⟩
theorem d33_59 : DAt B33 59 (.iload_n 1) 1 60 := ⟨by decide +kernel, rfl⟩
theorem d33_60 : DAt B33 60 (.iconst 0) 1 61 := ⟨by decide +kernel, rfl⟩
theorem d33_61 : DAt B33 61 (.iastore) 1 62 := ⟨by decide +kernel, rfl⟩
theorem d33_62 : DAt B33 62 (.iinc 1 1) 3 65 := ⟨by decide +kernel, rfl⟩
theorem d33_65 : DAt B33 65 (.goto (-63)) 3 68 := ⟨by decide +kernel, rfl⟩
theorem d33_68 : DAt B33 68 (.return_) 1 69 := ⟨by decide +kernel, rfl⟩
def B25 : Bdy := ((⟨"MirrorResync", "acknowledge", "()V"⟩ : MethodName), prog_1_method_24_code, 3, none, ({ frames := 1, cells := 0, slots := 0, locals := 14 } : Room))
theorem d25_0 : DAt B25 0 (.aload_n 0) 1 1 := ⟨by decide +kernel, rfl⟩
theorem d25_1 : DAt B25 1 (.getfield 53) 3 4 := ⟨by decide +kernel, rfl⟩
theorem d25_4 : DAt B25 4 (.istore_n 1) 1 5 := ⟨by decide +kernel, rfl⟩
theorem d25_5 : DAt B25 5 (.aload_n 0) 1 6 := ⟨by decide +kernel, rfl⟩
theorem d25_6 : DAt B25 6 (.getfield 13) 3 9 := ⟨by decide +kernel, rfl⟩
theorem d25_9 : DAt B25 9 (.iload_n 1) 1 10 := ⟨by decide +kernel, rfl⟩
theorem d25_10 : DAt B25 10 (.aload_n 0) 1 11 := ⟨by decide +kernel, rfl⟩
theorem d25_11 : DAt B25 11 (.getfield 56) 3 14 := ⟨by decide +kernel, rfl⟩
theorem d25_14 : DAt B25 14 (.iastore) 1 15 := ⟨by decide +kernel, rfl⟩
theorem d25_15 : DAt B25 15 (.aload_n 0) 1 16 := ⟨by decide +kernel, rfl⟩
theorem d25_16 : DAt B25 16 (.invokevirtual 74) 3 19 := ⟨by decide +kernel, rfl⟩
theorem d25_19 : DAt B25 19 (.iload_n 1) 1 20 := ⟨by decide +kernel, rfl⟩
theorem d25_20 : DAt B25 20 (.aload_n 0) 1 21 := ⟨by decide +kernel, rfl⟩
theorem d25_21 : DAt B25 21 (.getfield 37) 3 24 := ⟨by decide +kernel, rfl⟩
theorem d25_24 : DAt B25 24 (.idiv) 1 25 := ⟨by decide +kernel, rfl⟩
theorem d25_25 : DAt B25 25 (.istore_n 2) 1 26 := ⟨by decide +kernel, rfl⟩
theorem d25_26 : DAt B25 26 (.aload_n 0) 1 27 := ⟨by decide +kernel, rfl⟩
theorem d25_27 : DAt B25 27 (.iload_n 2) 1 28 := ⟨by decide +kernel, rfl⟩
theorem d25_28 : DAt B25 28 (.invokevirtual 101) 3 31 := ⟨by decide +kernel, rfl⟩
theorem d25_31 : DAt B25 31 (.aload_n 0) 1 32 := ⟨by decide +kernel, rfl⟩
theorem d25_32 : DAt B25 32 (.getfield 23) 3 35 := ⟨by decide +kernel, rfl⟩
theorem d25_35 : DAt B25 35 (.iload_n 2) 1 36 := ⟨by decide +kernel, rfl⟩
theorem d25_36 : DAt B25 36 (.iconst 1) 1 37 := ⟨by decide +kernel, rfl⟩
theorem d25_37 : DAt B25 37 (.bastore) 1 38 := ⟨by decide +kernel, rfl⟩
theorem d25_38 : DAt B25 38 (.aload_n 0) 1 39 := ⟨by decide +kernel, rfl⟩
theorem d25_39 : DAt B25 39 (.getfield 26) 3 42 := ⟨by decide +kernel, rfl⟩
theorem d25_42 : DAt B25 42 (.iload_n 2) 1 43 := ⟨by decide +kernel, rfl⟩
theorem d25_43 : DAt B25 43 (.iconst 0) 1 44 := ⟨by decide +kernel, rfl⟩
theorem d25_44 : DAt B25 44 (.iastore) 1 45 := ⟨by decide +kernel, rfl⟩
theorem d25_45 : DAt B25 45 (.aload_n 0) 1 46 := ⟨by decide +kernel, rfl⟩
theorem d25_46 : DAt B25 46 (.invokevirtual 104) 3 49 := ⟨by decide +kernel, rfl⟩
theorem d25_49 : DAt B25 49 (.ifCond .eq 7) 3 52 := ⟨by decide +kernel, rfl⟩
theorem d25_52 : DAt B25 52 (.aload_n 0) 1 53 := ⟨by decide +kernel, rfl⟩
theorem d25_53 : DAt B25 53 (.invokevirtual 108) 3 56 := ⟨by decide +kernel, rfl⟩
theorem d25_56 : DAt B25 56 (.return_) 1 57 := ⟨by decide +kernel, rfl⟩
def B22 : Bdy := ((⟨"MirrorResync", "step", "()I"⟩ : MethodName), prog_1_method_3_code, 2, (some .int), ({ frames := 2, cells := 0, slots := 0, locals := 28 } : Room))
theorem d22_0 : DAt B22 0 (.aload_n 0) 1 1 := ⟨by decide +kernel, rfl⟩
theorem d22_1 : DAt B22 1 (.getfield 46) 3 4 := ⟨by decide +kernel, rfl⟩
theorem d22_4 : DAt B22 4 (.ifCond .eq 5) 3 7 := ⟨by decide +kernel, rfl⟩
theorem d22_7 : DAt B22 7 (.iconst (-1)) 1 8 := ⟨by decide +kernel, rfl⟩
theorem d22_8 : DAt B22 8 (.ireturn) 1 9 := ⟨by decide +kernel, rfl⟩
theorem d22_9 : DAt B22 9 (.aload_n 0) 1 10 := ⟨by decide +kernel, rfl⟩
theorem d22_10 : DAt B22 10 (.getfield 50) 3 13 := ⟨by decide +kernel, rfl⟩
theorem d22_13 : DAt B22 13 (.ifCond .ne 6) 3 16 := ⟨by decide +kernel, rfl⟩
theorem d22_16 : DAt B22 16 (.bipush (-5)) 2 18 := ⟨by decide +kernel, rfl⟩
theorem d22_18 : DAt B22 18 (.ireturn) 1 19 := ⟨by decide +kernel, rfl⟩
theorem d22_19 : DAt B22 19 (.aload_n 0) 1 20 := ⟨by decide +kernel, rfl⟩
theorem d22_20 : DAt B22 20 (.getfield 59) 3 23 := ⟨by decide +kernel, rfl⟩
theorem d22_23 : DAt B22 23 (.iconst 1) 1 24 := ⟨by decide +kernel, rfl⟩
theorem d22_24 : DAt B22 24 (.if_icmp .gt 29) 3 27 := ⟨by decide +kernel, rfl⟩
theorem d22_27 : DAt B22 27 (.aload_n 0) 1 28 := ⟨by decide +kernel, rfl⟩
theorem d22_28 : DAt B22 28 (.getfield 16) 3 31 := ⟨by decide +kernel, rfl⟩
theorem d22_31 : DAt B22 31 (.aload_n 0) 1 32 := ⟨by decide +kernel, rfl⟩
theorem d22_32 : DAt B22 32 (.getfield 59) 3 35 := ⟨by decide +kernel, rfl⟩
theorem d22_35 : DAt B22 35 (.iaload) 1 36 := ⟨by decide +kernel, rfl⟩
theorem d22_36 : DAt B22 36 (.iconst 2) 1 37 := ⟨by decide +kernel, rfl⟩
theorem d22_37 : DAt B22 37 (.if_icmp .ne 16) 3 40 := ⟨by decide +kernel, rfl⟩
theorem d22_40 : DAt B22 40 (.aload_n 0) 1 41 := ⟨by decide +kernel, rfl⟩
theorem d22_41 : DAt B22 41 (.dup) 1 42 := ⟨by decide +kernel, rfl⟩
theorem d22_42 : DAt B22 42 (.getfield 59) 3 45 := ⟨by decide +kernel, rfl⟩
theorem d22_45 : DAt B22 45 (.iconst 1) 1 46 := ⟨by decide +kernel, rfl⟩
theorem d22_46 : DAt B22 46 (.iadd) 1 47 := ⟨by decide +kernel, rfl⟩
theorem d22_47 : DAt B22 47 (.putfield 59) 3 50 := ⟨by decide +kernel, rfl⟩
theorem d22_50 : DAt B22 50 (.goto (-31)) 3 53 := ⟨by decide +kernel, rfl⟩
theorem d22_53 : DAt B22 53 (.aload_n 0) 1 54 := ⟨by decide +kernel, rfl⟩
theorem d22_54 : DAt B22 54 (.getfield 59) 3 57 := ⟨by decide +kernel, rfl⟩
theorem d22_57 : DAt B22 57 (.iconst 1) 1 58 := ⟨by decide +kernel, rfl⟩
theorem d22_58 : DAt B22 58 (.if_icmp .gt 46) 3 61 := ⟨by decide +kernel, rfl⟩
theorem d22_61 : DAt B22 61 (.aload_n 0) 1 62 := ⟨by decide +kernel, rfl⟩
theorem d22_62 : DAt B22 62 (.getfield 59) 3 65 := ⟨by decide +kernel, rfl⟩
theorem d22_65 : DAt B22 65 (.istore_n 1) 1 66 := ⟨by decide +kernel, rfl⟩
theorem d22_66 : DAt B22 66 (.aload_n 0) 1 67 := ⟨by decide +kernel, rfl⟩
theorem d22_67 : DAt B22 67 (.getfield 7) 3 70 := ⟨by decide +kernel, rfl⟩
theorem d22_70 : DAt B22 70 (.iload_n 1) 1 71 := ⟨by decide +kernel, rfl⟩
theorem d22_71 : DAt B22 71 (.bipush 32) 2 73 := ⟨by decide +kernel, rfl⟩
theorem d22_73 : DAt B22 73 (.imul) 1 74 := ⟨by decide +kernel, rfl⟩
theorem d22_74 : DAt B22 74 (.aload_n 0) 1 75 := ⟨by decide +kernel, rfl⟩
theorem d22_75 : DAt B22 75 (.getfield 53) 3 78 := ⟨by decide +kernel, rfl⟩
theorem d22_78 : DAt B22 78 (.iadd) 1 79 := ⟨by decide +kernel, rfl⟩
theorem d22_79 : DAt B22 79 (.aload_n 0) 1 80 := ⟨by decide +kernel, rfl⟩
theorem d22_80 : DAt B22 80 (.getfield 56) 3 83 := ⟨by decide +kernel, rfl⟩
theorem d22_83 : DAt B22 83 (.iastore) 1 84 := ⟨by decide +kernel, rfl⟩
theorem d22_84 : DAt B22 84 (.aload_n 0) 1 85 := ⟨by decide +kernel, rfl⟩
theorem d22_85 : DAt B22 85 (.dup) 1 86 := ⟨by decide +kernel, rfl⟩
theorem d22_86 : DAt B22 86 (.getfield 59) 3 89 := ⟨by decide +kernel, rfl⟩
theorem d22_89 : DAt B22 89 (.iconst 1) 1 90 := ⟨by decide +kernel, rfl⟩
theorem d22_90 : DAt B22 90 (.iadd) 1 91 := ⟨by decide +kernel, rfl⟩
theorem d22_91 : DAt B22 91 (.putfield 59) 3 94 := ⟨by decide +kernel, rfl⟩
theorem d22_94 : DAt B22 94 (.iload_n 1) 1 95 := ⟨by decide +kernel, rfl⟩
theorem d22_95 : DAt B22 95 (.ifCond .ne 7) 3 98 := ⟨by decide +kernel, rfl⟩
theorem d22_98 : DAt B22 98 (.iconst 1) 1 99 := ⟨by decide +kernel, rfl⟩
theorem d22_99 : DAt B22 99 (.goto 4) 3 102 := ⟨by decide +kernel, rfl⟩
theorem d22_102 : DAt B22 102 (.iconst 2) 1 103 := ⟨by decide +kernel, rfl⟩
theorem d22_103 : DAt B22 103 (.ireturn) 1 104 := ⟨by decide +kernel, rfl⟩
theorem d22_104 : DAt B22 104 (.aload_n 0) 1 105 := ⟨by decide +kernel, rfl⟩
theorem d22_105 : DAt B22 105 (.invokevirtual 71) 3 108 := ⟨by decide +kernel, rfl⟩
theorem d22_108 : DAt B22 108 (.iconst 3) 1 109 := ⟨by decide +kernel, rfl⟩
theorem d22_109 : DAt B22 109 (.ireturn) 1 110 := ⟨by decide +kernel, rfl⟩
def B14 : Bdy := ((⟨"MirrorResync", "legState", "(I)I"⟩ : MethodName), prog_1_method_12_code, 2, (some .int), ({ frames := 1, cells := 0, slots := 0, locals := 13 } : Room))
theorem d14_0 : DAt B14 0 (.aload_n 0) 1 1 := ⟨by decide +kernel, rfl⟩
theorem d14_1 : DAt B14 1 (.iload_n 1) 1 2 := ⟨by decide +kernel, rfl⟩
theorem d14_2 : DAt B14 2 (.invokevirtual 77) 3 5 := ⟨by decide +kernel, rfl⟩
theorem d14_5 : DAt B14 5 (.ifCond .ne 5) 3 8 := ⟨by decide +kernel, rfl⟩
theorem d14_8 : DAt B14 8 (.iconst (-1)) 1 9 := ⟨by decide +kernel, rfl⟩
theorem d14_9 : DAt B14 9 (.ireturn) 1 10 := ⟨by decide +kernel, rfl⟩
theorem d14_10 : DAt B14 10 (.aload_n 0) 1 11 := ⟨by decide +kernel, rfl⟩
theorem d14_11 : DAt B14 11 (.getfield 16) 3 14 := ⟨by decide +kernel, rfl⟩
theorem d14_14 : DAt B14 14 (.iload_n 1) 1 15 := ⟨by decide +kernel, rfl⟩
theorem d14_15 : DAt B14 15 (.iaload) 1 16 := ⟨by decide +kernel, rfl⟩
theorem d14_16 : DAt B14 16 (.ireturn) 1 17 := ⟨by decide +kernel, rfl⟩
def B17 : Bdy := ((⟨"MirrorResync", "ackedValue", "(I)I"⟩ : MethodName), prog_1_method_16_code, 2, (some .int), ({ frames := 1, cells := 0, slots := 0, locals := 13 } : Room))
theorem d17_0 : DAt B17 0 (.aload_n 0) 1 1 := ⟨by decide +kernel, rfl⟩
theorem d17_1 : DAt B17 1 (.iload_n 1) 1 2 := ⟨by decide +kernel, rfl⟩
theorem d17_2 : DAt B17 2 (.invokevirtual 62) 3 5 := ⟨by decide +kernel, rfl⟩
theorem d17_5 : DAt B17 5 (.ifCond .ne 5) 3 8 := ⟨by decide +kernel, rfl⟩
theorem d17_8 : DAt B17 8 (.iconst (-1)) 1 9 := ⟨by decide +kernel, rfl⟩
theorem d17_9 : DAt B17 9 (.ireturn) 1 10 := ⟨by decide +kernel, rfl⟩
theorem d17_10 : DAt B17 10 (.aload_n 0) 1 11 := ⟨by decide +kernel, rfl⟩
theorem d17_11 : DAt B17 11 (.getfield 13) 3 14 := ⟨by decide +kernel, rfl⟩
theorem d17_14 : DAt B17 14 (.iload_n 1) 1 15 := ⟨by decide +kernel, rfl⟩
theorem d17_15 : DAt B17 15 (.iaload) 1 16 := ⟨by decide +kernel, rfl⟩
theorem d17_16 : DAt B17 16 (.ireturn) 1 17 := ⟨by decide +kernel, rfl⟩
def B16 : Bdy := ((⟨"MirrorResync", "peek", "(II)I"⟩ : MethodName), prog_1_method_11_code, 3, (some .int), ({ frames := 1, cells := 0, slots := 0, locals := 13 } : Room))
theorem d16_0 : DAt B16 0 (.aload_n 0) 1 1 := ⟨by decide +kernel, rfl⟩
theorem d16_1 : DAt B16 1 (.iload_n 1) 1 2 := ⟨by decide +kernel, rfl⟩
theorem d16_2 : DAt B16 2 (.invokevirtual 77) 3 5 := ⟨by decide +kernel, rfl⟩
theorem d16_5 : DAt B16 5 (.ifCond .eq 11) 3 8 := ⟨by decide +kernel, rfl⟩
theorem d16_8 : DAt B16 8 (.aload_n 0) 1 9 := ⟨by decide +kernel, rfl⟩
theorem d16_9 : DAt B16 9 (.iload_n 2) 1 10 := ⟨by decide +kernel, rfl⟩
theorem d16_10 : DAt B16 10 (.invokevirtual 62) 3 13 := ⟨by decide +kernel, rfl⟩
theorem d16_13 : DAt B16 13 (.ifCond .ne 5) 3 16 := ⟨by decide +kernel, rfl⟩
theorem d16_16 : DAt B16 16 (.iconst (-1)) 1 17 := ⟨by decide +kernel, rfl⟩
theorem d16_17 : DAt B16 17 (.ireturn) 1 18 := ⟨by decide +kernel, rfl⟩
theorem d16_18 : DAt B16 18 (.aload_n 0) 1 19 := ⟨by decide +kernel, rfl⟩
theorem d16_19 : DAt B16 19 (.getfield 7) 3 22 := ⟨by decide +kernel, rfl⟩
theorem d16_22 : DAt B16 22 (.iload_n 1) 1 23 := ⟨by decide +kernel, rfl⟩
theorem d16_23 : DAt B16 23 (.bipush 32) 2 25 := ⟨by decide +kernel, rfl⟩
theorem d16_25 : DAt B16 25 (.imul) 1 26 := ⟨by decide +kernel, rfl⟩
theorem d16_26 : DAt B16 26 (.iload_n 2) 1 27 := ⟨by decide +kernel, rfl⟩
theorem d16_27 : DAt B16 27 (.iadd) 1 28 := ⟨by decide +kernel, rfl⟩
theorem d16_28 : DAt B16 28 (.iaload) 1 29 := ⟨by decide +kernel, rfl⟩
theorem d16_29 : DAt B16 29 (.ireturn) 1 30 := ⟨by decide +kernel, rfl⟩
def B15 : Bdy := ((⟨"MirrorResyncL7", "pack", "(LMirrorResync;I)J"⟩ : MethodName), method_3_code, 6, (some .long), ({ frames := 2, cells := 0, slots := 0, locals := 27 } : Room))
theorem d15_0 : DAt B15 0 (.lconst 0) 1 1 := ⟨by decide +kernel, rfl⟩
theorem d15_1 : DAt B15 1 (.lstore_n 2) 1 2 := ⟨by decide +kernel, rfl⟩
theorem d15_2 : DAt B15 2 (.iconst 0) 1 3 := ⟨by decide +kernel, rfl⟩
theorem d15_3 : DAt B15 3 (.istore 4) 2 5 := ⟨by decide +kernel, rfl⟩
theorem d15_5 : DAt B15 5 (.iload 4) 2 7 := ⟨by decide +kernel, rfl⟩
theorem d15_7 : DAt B15 7 (.bipush 12) 2 9 := ⟨by decide +kernel, rfl⟩
theorem d15_9 : DAt B15 9 (.if_icmp .ge 60) 3 12 := ⟨by decide +kernel, rfl⟩
theorem d15_12 : DAt B15 12 (.iload_n 1) 1 13 := ⟨by decide +kernel, rfl⟩
theorem d15_13 : DAt B15 13 (.ifCond .ge 14) 3 16 := ⟨by decide +kernel, rfl⟩
theorem d15_16 : DAt B15 16 (.aload_n 0) 1 17 := ⟨by decide +kernel, rfl⟩
theorem d15_17 : DAt B15 17 (.iload 4) 2 19 := ⟨by decide +kernel, rfl⟩
theorem d15_19 : DAt B15 19 (.invokevirtual 9) 3 22 := ⟨by decide +kernel, rfl⟩
theorem d15_22 : DAt B15 22 (.istore 5) 2 24 := ⟨by decide +kernel, rfl⟩
theorem d15_24 : DAt B15 24 (.goto 12) 3 27 := ⟨by decide +kernel, rfl⟩
theorem d15_27 : DAt B15 27 (.aload_n 0) 1 28 := ⟨by decide +kernel, rfl⟩
theorem d15_28 : DAt B15 28 (.iload_n 1) 1 29 := ⟨by decide +kernel, rfl⟩
theorem d15_29 : DAt B15 29 (.iload 4) 2 31 := ⟨by decide +kernel, rfl⟩
theorem d15_31 : DAt B15 31 (.invokevirtual 15) 3 34 := ⟨by decide +kernel, rfl⟩
theorem d15_34 : DAt B15 34 (.istore 5) 2 36 := ⟨by decide +kernel, rfl⟩
theorem d15_36 : DAt B15 36 (.iload 5) 2 38 := ⟨by decide +kernel, rfl⟩
theorem d15_38 : DAt B15 38 (.ifCond .lt 10) 3 41 := ⟨by decide +kernel, rfl⟩
theorem d15_41 : DAt B15 41 (.iload 5) 2 43 := ⟨by decide +kernel, rfl⟩
theorem d15_43 : DAt B15 43 (.bipush 30) 2 45 := ⟨by decide +kernel, rfl⟩
theorem d15_45 : DAt B15 45 (.if_icmp .le 7) 3 48 := ⟨by decide +kernel, rfl⟩
theorem d15_48 : DAt B15 48 (.ldc2_w 19) 3 51 := ⟨by decide +kernel, rfl⟩
theorem d15_51 : DAt B15 51 (.lreturn) 1 52 := ⟨by decide +kernel, rfl⟩
theorem d15_52 : DAt B15 52 (.lload_n 2) 1 53 := ⟨by decide +kernel, rfl⟩
theorem d15_53 : DAt B15 53 (.iload 5) 2 55 := ⟨by decide +kernel, rfl⟩
theorem d15_55 : DAt B15 55 (.i2l) 1 56 := ⟨by decide +kernel, rfl⟩
theorem d15_56 : DAt B15 56 (.iconst 5) 1 57 := ⟨by decide +kernel, rfl⟩
theorem d15_57 : DAt B15 57 (.iload 4) 2 59 := ⟨by decide +kernel, rfl⟩
theorem d15_59 : DAt B15 59 (.imul) 1 60 := ⟨by decide +kernel, rfl⟩
theorem d15_60 : DAt B15 60 (.lshl) 1 61 := ⟨by decide +kernel, rfl⟩
theorem d15_61 : DAt B15 61 (.lor) 1 62 := ⟨by decide +kernel, rfl⟩
theorem d15_62 : DAt B15 62 (.lstore_n 2) 1 63 := ⟨by decide +kernel, rfl⟩
theorem d15_63 : DAt B15 63 (.iinc 4 1) 3 66 := ⟨by decide +kernel, rfl⟩
theorem d15_66 : DAt B15 66 (.goto (-61)) 3 69 := ⟨by decide +kernel, rfl⟩
theorem d15_69 : DAt B15 69 (.lload_n 2) 1 70 := ⟨by decide +kernel, rfl⟩
theorem d15_70 : DAt B15 70 (.lreturn) 1 71 := ⟨by decide +kernel, rfl⟩
def B20 : Bdy := ((⟨"MirrorResyncL7", "get", "(JI)I"⟩ : MethodName), method_2_code, 3, (some .int), ({ frames := 0, cells := 0, slots := 0, locals := 0 } : Room))
theorem d20_0 : DAt B20 0 (.lload_n 0) 1 1 := ⟨by decide +kernel, rfl⟩
theorem d20_1 : DAt B20 1 (.iconst 5) 1 2 := ⟨by decide +kernel, rfl⟩
theorem d20_2 : DAt B20 2 (.iload_n 2) 1 3 := ⟨by decide +kernel, rfl⟩
theorem d20_3 : DAt B20 3 (.imul) 1 4 := ⟨by decide +kernel, rfl⟩
theorem d20_4 : DAt B20 4 (.lushr) 1 5 := ⟨by decide +kernel, rfl⟩
theorem d20_5 : DAt B20 5 (.ldc2_w 7) 3 8 := ⟨by decide +kernel, rfl⟩
theorem d20_8 : DAt B20 8 (.land) 1 9 := ⟨by decide +kernel, rfl⟩
theorem d20_9 : DAt B20 9 (.l2i) 1 10 := ⟨by decide +kernel, rfl⟩
theorem d20_10 : DAt B20 10 (.ireturn) 1 11 := ⟨by decide +kernel, rfl⟩
def B21 : Bdy := ((⟨"MirrorResync", "read", "(I)I"⟩ : MethodName), prog_1_method_10_code, 3, (some .int), ({ frames := 1, cells := 0, slots := 0, locals := 13 } : Room))
theorem d21_0 : DAt B21 0 (.aload_n 0) 1 1 := ⟨by decide +kernel, rfl⟩
theorem d21_1 : DAt B21 1 (.getfield 46) 3 4 := ⟨by decide +kernel, rfl⟩
theorem d21_4 : DAt B21 4 (.ifCond .ne 11) 3 7 := ⟨by decide +kernel, rfl⟩
theorem d21_7 : DAt B21 7 (.aload_n 0) 1 8 := ⟨by decide +kernel, rfl⟩
theorem d21_8 : DAt B21 8 (.iload_n 1) 1 9 := ⟨by decide +kernel, rfl⟩
theorem d21_9 : DAt B21 9 (.invokevirtual 62) 3 12 := ⟨by decide +kernel, rfl⟩
theorem d21_12 : DAt B21 12 (.ifCond .ne 5) 3 15 := ⟨by decide +kernel, rfl⟩
theorem d21_15 : DAt B21 15 (.iconst (-1)) 1 16 := ⟨by decide +kernel, rfl⟩
theorem d21_16 : DAt B21 16 (.ireturn) 1 17 := ⟨by decide +kernel, rfl⟩
theorem d21_17 : DAt B21 17 (.aload_n 0) 1 18 := ⟨by decide +kernel, rfl⟩
theorem d21_18 : DAt B21 18 (.getfield 16) 3 21 := ⟨by decide +kernel, rfl⟩
theorem d21_21 : DAt B21 21 (.iconst 0) 1 22 := ⟨by decide +kernel, rfl⟩
theorem d21_22 : DAt B21 22 (.iaload) 1 23 := ⟨by decide +kernel, rfl⟩
theorem d21_23 : DAt B21 23 (.ifCond .ne 7) 3 26 := ⟨by decide +kernel, rfl⟩
theorem d21_26 : DAt B21 26 (.iconst 0) 1 27 := ⟨by decide +kernel, rfl⟩
theorem d21_27 : DAt B21 27 (.goto 4) 3 30 := ⟨by decide +kernel, rfl⟩
theorem d21_30 : DAt B21 30 (.iconst 1) 1 31 := ⟨by decide +kernel, rfl⟩
theorem d21_31 : DAt B21 31 (.istore_n 2) 1 32 := ⟨by decide +kernel, rfl⟩
theorem d21_32 : DAt B21 32 (.aload_n 0) 1 33 := ⟨by decide +kernel, rfl⟩
theorem d21_33 : DAt B21 33 (.getfield 7) 3 36 := ⟨by decide +kernel, rfl⟩
theorem d21_36 : DAt B21 36 (.iload_n 2) 1 37 := ⟨by decide +kernel, rfl⟩
theorem d21_37 : DAt B21 37 (.bipush 32) 2 39 := ⟨by decide +kernel, rfl⟩
theorem d21_39 : DAt B21 39 (.imul) 1 40 := ⟨by decide +kernel, rfl⟩
theorem d21_40 : DAt B21 40 (.iload_n 1) 1 41 := ⟨by decide +kernel, rfl⟩
theorem d21_41 : DAt B21 41 (.iadd) 1 42 := ⟨by decide +kernel, rfl⟩
theorem d21_42 : DAt B21 42 (.iaload) 1 43 := ⟨by decide +kernel, rfl⟩
theorem d21_43 : DAt B21 43 (.ireturn) 1 44 := ⟨by decide +kernel, rfl⟩
def B11 : Bdy := ((⟨"MirrorResyncL7", "relation", "(LMirrorResync;)Z"⟩ : MethodName), method_4_code, 22, (some .boolean), ({ frames := 3, cells := 0, slots := 0, locals := 44 } : Room))
theorem d11_0 : DAt B11 0 (.aload_n 0) 1 1 := ⟨by decide +kernel, rfl⟩
theorem d11_1 : DAt B11 1 (.invokevirtual 21) 3 4 := ⟨by decide +kernel, rfl⟩
theorem d11_4 : DAt B11 4 (.ifCond .eq 8) 3 7 := ⟨by decide +kernel, rfl⟩
theorem d11_7 : DAt B11 7 (.aload_n 0) 1 8 := ⟨by decide +kernel, rfl⟩
theorem d11_8 : DAt B11 8 (.invokevirtual 25) 3 11 := ⟨by decide +kernel, rfl⟩
theorem d11_11 : DAt B11 11 (.pop) 1 12 := ⟨by decide +kernel, rfl⟩
theorem d11_12 : DAt B11 12 (.iconst 0) 1 13 := ⟨by decide +kernel, rfl⟩
theorem d11_13 : DAt B11 13 (.istore_n 1) 1 14 := ⟨by decide +kernel, rfl⟩
theorem d11_14 : DAt B11 14 (.iload_n 1) 1 15 := ⟨by decide +kernel, rfl⟩
theorem d11_15 : DAt B11 15 (.iconst 3) 1 16 := ⟨by decide +kernel, rfl⟩
theorem d11_16 : DAt B11 16 (.if_icmp .ge 22) 3 19 := ⟨by decide +kernel, rfl⟩
theorem d11_19 : DAt B11 19 (.aload_n 0) 1 20 := ⟨by decide +kernel, rfl⟩
theorem d11_20 : DAt B11 20 (.invokevirtual 29) 3 23 := ⟨by decide +kernel, rfl⟩
theorem d11_23 : DAt B11 23 (.iconst (-1)) 1 24 := ⟨by decide +kernel, rfl⟩
theorem d11_24 : DAt B11 24 (.if_icmp .eq 8) 3 27 := ⟨by decide +kernel, rfl⟩
theorem d11_27 : DAt B11 27 (.aload_n 0) 1 28 := ⟨by decide +kernel, rfl⟩
theorem d11_28 : DAt B11 28 (.invokevirtual 32) 3 31 := ⟨by decide +kernel, rfl⟩
theorem d11_31 : DAt B11 31 (.pop) 1 32 := ⟨by decide +kernel, rfl⟩
theorem d11_32 : DAt B11 32 (.iinc 1 1) 3 35 := ⟨by decide +kernel, rfl⟩
theorem d11_35 : DAt B11 35 (.goto (-21)) 3 38 := ⟨by decide +kernel, rfl⟩
theorem d11_38 : DAt B11 38 (.aload_n 0) 1 39 := ⟨by decide +kernel, rfl⟩
theorem d11_39 : DAt B11 39 (.invokevirtual 29) 3 42 := ⟨by decide +kernel, rfl⟩
theorem d11_42 : DAt B11 42 (.iconst (-1)) 1 43 := ⟨by decide +kernel, rfl⟩
theorem d11_43 : DAt B11 43 (.if_icmp .ne 10) 3 46 := ⟨by decide +kernel, rfl⟩
theorem d11_46 : DAt B11 46 (.aload_n 0) 1 47 := ⟨by decide +kernel, rfl⟩
theorem d11_47 : DAt B11 47 (.invokevirtual 21) 3 50 := ⟨by decide +kernel, rfl⟩
theorem d11_50 : DAt B11 50 (.ifCond .eq 5) 3 53 := ⟨by decide +kernel, rfl⟩
theorem d11_53 : DAt B11 53 (.iconst 0) 1 54 := ⟨by decide +kernel, rfl⟩
theorem d11_54 : DAt B11 54 (.ireturn) 1 55 := ⟨by decide +kernel, rfl⟩
theorem d11_55 : DAt B11 55 (.aload_n 0) 1 56 := ⟨by decide +kernel, rfl⟩
theorem d11_56 : DAt B11 56 (.iconst 0) 1 57 := ⟨by decide +kernel, rfl⟩
theorem d11_57 : DAt B11 57 (.invokevirtual 35) 3 60 := ⟨by decide +kernel, rfl⟩
theorem d11_60 : DAt B11 60 (.istore_n 1) 1 61 := ⟨by decide +kernel, rfl⟩
theorem d11_61 : DAt B11 61 (.aload_n 0) 1 62 := ⟨by decide +kernel, rfl⟩
theorem d11_62 : DAt B11 62 (.iconst 1) 1 63 := ⟨by decide +kernel, rfl⟩
theorem d11_63 : DAt B11 63 (.invokevirtual 35) 3 66 := ⟨by decide +kernel, rfl⟩
theorem d11_66 : DAt B11 66 (.istore_n 2) 1 67 := ⟨by decide +kernel, rfl⟩
theorem d11_67 : DAt B11 67 (.aload_n 0) 1 68 := ⟨by decide +kernel, rfl⟩
theorem d11_68 : DAt B11 68 (.iconst 0) 1 69 := ⟨by decide +kernel, rfl⟩
theorem d11_69 : DAt B11 69 (.invokestatic 38) 3 72 := ⟨by decide +kernel, rfl⟩
theorem d11_72 : DAt B11 72 (.lstore_n 3) 1 73 := ⟨by decide +kernel, rfl⟩
theorem d11_73 : DAt B11 73 (.aload_n 0) 1 74 := ⟨by decide +kernel, rfl⟩
theorem d11_74 : DAt B11 74 (.iconst 1) 1 75 := ⟨by decide +kernel, rfl⟩
theorem d11_75 : DAt B11 75 (.invokestatic 38) 3 78 := ⟨by decide +kernel, rfl⟩
theorem d11_78 : DAt B11 78 (.lstore 5) 2 80 := ⟨by decide +kernel, rfl⟩
theorem d11_80 : DAt B11 80 (.aload_n 0) 1 81 := ⟨by decide +kernel, rfl⟩
theorem d11_81 : DAt B11 81 (.iconst (-1)) 1 82 := ⟨by decide +kernel, rfl⟩
theorem d11_82 : DAt B11 82 (.invokestatic 38) 3 85 := ⟨by decide +kernel, rfl⟩
theorem d11_85 : DAt B11 85 (.lstore 7) 2 87 := ⟨by decide +kernel, rfl⟩
theorem d11_87 : DAt B11 87 (.lload_n 3) 1 88 := ⟨by decide +kernel, rfl⟩
theorem d11_88 : DAt B11 88 (.lconst 0) 1 89 := ⟨by decide +kernel, rfl⟩
theorem d11_89 : DAt B11 89 (.lcmp) 1 90 := ⟨by decide +kernel, rfl⟩
theorem d11_90 : DAt B11 90 (.ifCond .lt 17) 3 93 := ⟨by decide +kernel, rfl⟩
theorem d11_93 : DAt B11 93 (.lload 5) 2 95 := ⟨by decide +kernel, rfl⟩
theorem d11_95 : DAt B11 95 (.lconst 0) 1 96 := ⟨by decide +kernel, rfl⟩
theorem d11_96 : DAt B11 96 (.lcmp) 1 97 := ⟨by decide +kernel, rfl⟩
theorem d11_97 : DAt B11 97 (.ifCond .lt 10) 3 100 := ⟨by decide +kernel, rfl⟩
theorem d11_100 : DAt B11 100 (.lload 7) 2 102 := ⟨by decide +kernel, rfl⟩
theorem d11_102 : DAt B11 102 (.lconst 0) 1 103 := ⟨by decide +kernel, rfl⟩
theorem d11_103 : DAt B11 103 (.lcmp) 1 104 := ⟨by decide +kernel, rfl⟩
theorem d11_104 : DAt B11 104 (.ifCond .ge 5) 3 107 := ⟨by decide +kernel, rfl⟩
theorem d11_107 : DAt B11 107 (.iconst 0) 1 108 := ⟨by decide +kernel, rfl⟩
theorem d11_108 : DAt B11 108 (.ireturn) 1 109 := ⟨by decide +kernel, rfl⟩
theorem d11_109 : DAt B11 109 (.iload_n 1) 1 110 := ⟨by decide +kernel, rfl⟩
theorem d11_110 : DAt B11 110 (.iconst 1) 1 111 := ⟨by decide +kernel, rfl⟩
theorem d11_111 : DAt B11 111 (.if_icmp .eq 8) 3 114 := ⟨by decide +kernel, rfl⟩
theorem d11_114 : DAt B11 114 (.iload_n 2) 1 115 := ⟨by decide +kernel, rfl⟩
theorem d11_115 : DAt B11 115 (.iconst 1) 1 116 := ⟨by decide +kernel, rfl⟩
theorem d11_116 : DAt B11 116 (.if_icmp .ne 7) 3 119 := ⟨by decide +kernel, rfl⟩
theorem d11_119 : DAt B11 119 (.iconst 1) 1 120 := ⟨by decide +kernel, rfl⟩
theorem d11_120 : DAt B11 120 (.goto 4) 3 123 := ⟨by decide +kernel, rfl⟩
theorem d11_123 : DAt B11 123 (.iconst 0) 1 124 := ⟨by decide +kernel, rfl⟩
theorem d11_124 : DAt B11 124 (.istore 9) 2 126 := ⟨by decide +kernel, rfl⟩
theorem d11_126 : DAt B11 126 (.iload_n 1) 1 127 := ⟨by decide +kernel, rfl⟩
theorem d11_127 : DAt B11 127 (.ifCond .ne 7) 3 130 := ⟨by decide +kernel, rfl⟩
theorem d11_130 : DAt B11 130 (.lload_n 3) 1 131 := ⟨by decide +kernel, rfl⟩
theorem d11_131 : DAt B11 131 (.goto 5) 3 134 := ⟨by decide +kernel, rfl⟩
theorem d11_134 : DAt B11 134 (.lload 5) 2 136 := ⟨by decide +kernel, rfl⟩
theorem d11_136 : DAt B11 136 (.lstore 10) 2 138 := ⟨by decide +kernel, rfl⟩
theorem d11_138 : DAt B11 138 (.aload_n 0) 1 139 := ⟨by decide +kernel, rfl⟩
theorem d11_139 : DAt B11 139 (.invokevirtual 44) 3 142 := ⟨by decide +kernel, rfl⟩
theorem d11_142 : DAt B11 142 (.istore 12) 2 144 := ⟨by decide +kernel, rfl⟩
theorem d11_144 : DAt B11 144 (.iload 12) 2 146 := ⟨by decide +kernel, rfl⟩
theorem d11_146 : DAt B11 146 (.iload 9) 2 148 := ⟨by decide +kernel, rfl⟩
theorem d11_148 : DAt B11 148 (.ifCond .eq 7) 3 151 := ⟨by decide +kernel, rfl⟩
theorem d11_151 : DAt B11 151 (.iconst 0) 1 152 := ⟨by decide +kernel, rfl⟩
theorem d11_152 : DAt B11 152 (.goto 5) 3 155 := ⟨by decide +kernel, rfl⟩
theorem d11_155 : DAt B11 155 (.bipush (-4)) 2 157 := ⟨by decide +kernel, rfl⟩
theorem d11_157 : DAt B11 157 (.if_icmp .eq 5) 3 160 := ⟨by decide +kernel, rfl⟩
theorem d11_160 : DAt B11 160 (.iconst 0) 1 161 := ⟨by decide +kernel, rfl⟩
theorem d11_161 : DAt B11 161 (.ireturn) 1 162 := ⟨by decide +kernel, rfl⟩
theorem d11_162 : DAt B11 162 (.iload 9) 2 164 := ⟨by decide +kernel, rfl⟩
theorem d11_164 : DAt B11 164 (.ifCond .eq 8) 3 167 := ⟨by decide +kernel, rfl⟩
theorem d11_167 : DAt B11 167 (.lload 10) 2 169 := ⟨by decide +kernel, rfl⟩
theorem d11_169 : DAt B11 169 (.goto 4) 3 172 := ⟨by decide +kernel, rfl⟩
theorem d11_172 : DAt B11 172 (.lload_n 3) 1 173 := ⟨by decide +kernel, rfl⟩
theorem d11_173 : DAt B11 173 (.lstore 13) 2 175 := ⟨by decide +kernel, rfl⟩
theorem d11_175 : DAt B11 175 (.iload 9) 2 177 := ⟨by decide +kernel, rfl⟩
theorem d11_177 : DAt B11 177 (.ifCond .eq 8) 3 180 := ⟨by decide +kernel, rfl⟩
theorem d11_180 : DAt B11 180 (.lload 10) 2 182 := ⟨by decide +kernel, rfl⟩
theorem d11_182 : DAt B11 182 (.goto 5) 3 185 := ⟨by decide +kernel, rfl⟩
theorem d11_185 : DAt B11 185 (.lload 5) 2 187 := ⟨by decide +kernel, rfl⟩
theorem d11_187 : DAt B11 187 (.lstore 15) 2 189 := ⟨by decide +kernel, rfl⟩
theorem d11_189 : DAt B11 189 (.iload 9) 2 191 := ⟨by decide +kernel, rfl⟩
theorem d11_191 : DAt B11 191 (.ifCond .eq 7) 3 194 := ⟨by decide +kernel, rfl⟩
theorem d11_194 : DAt B11 194 (.iconst 0) 1 195 := ⟨by decide +kernel, rfl⟩
theorem d11_195 : DAt B11 195 (.goto 4) 3 198 := ⟨by decide +kernel, rfl⟩
theorem d11_198 : DAt B11 198 (.iload_n 1) 1 199 := ⟨by decide +kernel, rfl⟩
theorem d11_199 : DAt B11 199 (.istore 17) 2 201 := ⟨by decide +kernel, rfl⟩
theorem d11_201 : DAt B11 201 (.iload 9) 2 203 := ⟨by decide +kernel, rfl⟩
theorem d11_203 : DAt B11 203 (.ifCond .eq 7) 3 206 := ⟨by decide +kernel, rfl⟩
theorem d11_206 : DAt B11 206 (.iconst 0) 1 207 := ⟨by decide +kernel, rfl⟩
theorem d11_207 : DAt B11 207 (.goto 4) 3 210 := ⟨by decide +kernel, rfl⟩
theorem d11_210 : DAt B11 210 (.iload_n 2) 1 211 := ⟨by decide +kernel, rfl⟩
theorem d11_211 : DAt B11 211 (.istore 18) 2 213 := ⟨by decide +kernel, rfl⟩
theorem d11_213 : DAt B11 213 (.iconst 0) 1 214 := ⟨by decide +kernel, rfl⟩
theorem d11_214 : DAt B11 214 (.istore 19) 2 216 := ⟨by decide +kernel, rfl⟩
theorem d11_216 : DAt B11 216 (.iload 19) 2 218 := ⟨by decide +kernel, rfl⟩
theorem d11_218 : DAt B11 218 (.iconst 2) 1 219 := ⟨by decide +kernel, rfl⟩
theorem d11_219 : DAt B11 219 (.if_icmp .ge 150) 3 222 := ⟨by decide +kernel, rfl⟩
theorem d11_222 : DAt B11 222 (.aload_n 0) 1 223 := ⟨by decide +kernel, rfl⟩
theorem d11_223 : DAt B11 223 (.iconst 0) 1 224 := ⟨by decide +kernel, rfl⟩
theorem d11_224 : DAt B11 224 (.invokestatic 38) 3 227 := ⟨by decide +kernel, rfl⟩
theorem d11_227 : DAt B11 227 (.lload 13) 2 229 := ⟨by decide +kernel, rfl⟩
theorem d11_229 : DAt B11 229 (.lcmp) 1 230 := ⟨by decide +kernel, rfl⟩
theorem d11_230 : DAt B11 230 (.ifCond .ne 25) 3 233 := ⟨by decide +kernel, rfl⟩
theorem d11_233 : DAt B11 233 (.aload_n 0) 1 234 := ⟨by decide +kernel, rfl⟩
theorem d11_234 : DAt B11 234 (.iconst 1) 1 235 := ⟨by decide +kernel, rfl⟩
theorem d11_235 : DAt B11 235 (.invokestatic 38) 3 238 := ⟨by decide +kernel, rfl⟩
theorem d11_238 : DAt B11 238 (.lload 15) 2 240 := ⟨by decide +kernel, rfl⟩
theorem d11_240 : DAt B11 240 (.lcmp) 1 241 := ⟨by decide +kernel, rfl⟩
theorem d11_241 : DAt B11 241 (.ifCond .ne 14) 3 244 := ⟨by decide +kernel, rfl⟩
theorem d11_244 : DAt B11 244 (.aload_n 0) 1 245 := ⟨by decide +kernel, rfl⟩
theorem d11_245 : DAt B11 245 (.iconst (-1)) 1 246 := ⟨by decide +kernel, rfl⟩
theorem d11_246 : DAt B11 246 (.invokestatic 38) 3 249 := ⟨by decide +kernel, rfl⟩
theorem d11_249 : DAt B11 249 (.lload 7) 2 251 := ⟨by decide +kernel, rfl⟩
theorem d11_251 : DAt B11 251 (.lcmp) 1 252 := ⟨by decide +kernel, rfl⟩
theorem d11_252 : DAt B11 252 (.ifCond .eq 5) 3 255 := ⟨by decide +kernel, rfl⟩
theorem d11_255 : DAt B11 255 (.iconst 0) 1 256 := ⟨by decide +kernel, rfl⟩
theorem d11_256 : DAt B11 256 (.ireturn) 1 257 := ⟨by decide +kernel, rfl⟩
theorem d11_257 : DAt B11 257 (.aload_n 0) 1 258 := ⟨by decide +kernel, rfl⟩
theorem d11_258 : DAt B11 258 (.iconst 0) 1 259 := ⟨by decide +kernel, rfl⟩
theorem d11_259 : DAt B11 259 (.invokevirtual 35) 3 262 := ⟨by decide +kernel, rfl⟩
theorem d11_262 : DAt B11 262 (.iload 17) 2 264 := ⟨by decide +kernel, rfl⟩
theorem d11_264 : DAt B11 264 (.if_icmp .ne 28) 3 267 := ⟨by decide +kernel, rfl⟩
theorem d11_267 : DAt B11 267 (.aload_n 0) 1 268 := ⟨by decide +kernel, rfl⟩
theorem d11_268 : DAt B11 268 (.iconst 1) 1 269 := ⟨by decide +kernel, rfl⟩
theorem d11_269 : DAt B11 269 (.invokevirtual 35) 3 272 := ⟨by decide +kernel, rfl⟩
theorem d11_272 : DAt B11 272 (.iload 18) 2 274 := ⟨by decide +kernel, rfl⟩
theorem d11_274 : DAt B11 274 (.if_icmp .ne 18) 3 277 := ⟨by decide +kernel, rfl⟩
theorem d11_277 : DAt B11 277 (.aload_n 0) 1 278 := ⟨by decide +kernel, rfl⟩
theorem d11_278 : DAt B11 278 (.invokevirtual 21) 3 281 := ⟨by decide +kernel, rfl⟩
theorem d11_281 : DAt B11 281 (.ifCond .ne 11) 3 284 := ⟨by decide +kernel, rfl⟩
theorem d11_284 : DAt B11 284 (.aload_n 0) 1 285 := ⟨by decide +kernel, rfl⟩
theorem d11_285 : DAt B11 285 (.invokevirtual 29) 3 288 := ⟨by decide +kernel, rfl⟩
theorem d11_288 : DAt B11 288 (.iconst (-1)) 1 289 := ⟨by decide +kernel, rfl⟩
theorem d11_289 : DAt B11 289 (.if_icmp .eq 5) 3 292 := ⟨by decide +kernel, rfl⟩
theorem d11_292 : DAt B11 292 (.iconst 0) 1 293 := ⟨by decide +kernel, rfl⟩
theorem d11_293 : DAt B11 293 (.ireturn) 1 294 := ⟨by decide +kernel, rfl⟩
theorem d11_294 : DAt B11 294 (.iconst 0) 1 295 := ⟨by decide +kernel, rfl⟩
theorem d11_295 : DAt B11 295 (.istore 20) 2 297 := ⟨by decide +kernel, rfl⟩
theorem d11_297 : DAt B11 297 (.iload 20) 2 299 := ⟨by decide +kernel, rfl⟩
theorem d11_299 : DAt B11 299 (.bipush 12) 2 301 := ⟨by decide +kernel, rfl⟩
theorem d11_301 : DAt B11 301 (.if_icmp .ge 46) 3 304 := ⟨by decide +kernel, rfl⟩
theorem d11_304 : DAt B11 304 (.iload 17) 2 306 := ⟨by decide +kernel, rfl⟩
theorem d11_306 : DAt B11 306 (.ifCond .ne 13) 3 309 := ⟨by decide +kernel, rfl⟩
theorem d11_309 : DAt B11 309 (.lload 13) 2 311 := ⟨by decide +kernel, rfl⟩
theorem d11_311 : DAt B11 311 (.iload 20) 2 313 := ⟨by decide +kernel, rfl⟩
theorem d11_313 : DAt B11 313 (.invokestatic 47) 3 316 := ⟨by decide +kernel, rfl⟩
theorem d11_316 : DAt B11 316 (.goto 10) 3 319 := ⟨by decide +kernel, rfl⟩
theorem d11_319 : DAt B11 319 (.lload 15) 2 321 := ⟨by decide +kernel, rfl⟩
theorem d11_321 : DAt B11 321 (.iload 20) 2 323 := ⟨by decide +kernel, rfl⟩
theorem d11_323 : DAt B11 323 (.invokestatic 47) 3 326 := ⟨by decide +kernel, rfl⟩
theorem d11_326 : DAt B11 326 (.istore 21) 2 328 := ⟨by decide +kernel, rfl⟩
theorem d11_328 : DAt B11 328 (.aload_n 0) 1 329 := ⟨by decide +kernel, rfl⟩
theorem d11_329 : DAt B11 329 (.iload 20) 2 331 := ⟨by decide +kernel, rfl⟩
theorem d11_331 : DAt B11 331 (.invokevirtual 51) 3 334 := ⟨by decide +kernel, rfl⟩
theorem d11_334 : DAt B11 334 (.iload 21) 2 336 := ⟨by decide +kernel, rfl⟩
theorem d11_336 : DAt B11 336 (.if_icmp .eq 5) 3 339 := ⟨by decide +kernel, rfl⟩
theorem d11_339 : DAt B11 339 (.iconst 0) 1 340 := ⟨by decide +kernel, rfl⟩
theorem d11_340 : DAt B11 340 (.ireturn) 1 341 := ⟨by decide +kernel, rfl⟩
theorem d11_341 : DAt B11 341 (.iinc 20 1) 3 344 := ⟨by decide +kernel, rfl⟩
theorem d11_344 : DAt B11 344 (.goto (-47)) 3 347 := ⟨by decide +kernel, rfl⟩
theorem d11_347 : DAt B11 347 (.iload 19) 2 349 := ⟨by decide +kernel, rfl⟩
theorem d11_349 : DAt B11 349 (.ifCond .ne 14) 3 352 := ⟨by decide +kernel, rfl⟩
theorem d11_352 : DAt B11 352 (.aload_n 0) 1 353 := ⟨by decide +kernel, rfl⟩
theorem d11_353 : DAt B11 353 (.invokevirtual 44) 3 356 := ⟨by decide +kernel, rfl⟩
theorem d11_356 : DAt B11 356 (.bipush (-4)) 2 358 := ⟨by decide +kernel, rfl⟩
theorem d11_358 : DAt B11 358 (.if_icmp .eq 5) 3 361 := ⟨by decide +kernel, rfl⟩
theorem d11_361 : DAt B11 361 (.iconst 0) 1 362 := ⟨by decide +kernel, rfl⟩
theorem d11_362 : DAt B11 362 (.ireturn) 1 363 := ⟨by decide +kernel, rfl⟩
theorem d11_363 : DAt B11 363 (.iinc 19 1) 3 366 := ⟨by decide +kernel, rfl⟩
theorem d11_366 : DAt B11 366 (.goto (-150)) 3 369 := ⟨by decide +kernel, rfl⟩
theorem d11_369 : DAt B11 369 (.iconst 1) 1 370 := ⟨by decide +kernel, rfl⟩
theorem d11_370 : DAt B11 370 (.ireturn) 1 371 := ⟨by decide +kernel, rfl⟩
def B0 : Bdy := (x, code, maxLocals, ret, room_1)
theorem d0_0 : DAt B0 0 (.aload_n 0) 1 1 := ⟨at_0, rfl⟩
theorem d0_1 : DAt B0 1 (.arraylength) 1 2 := ⟨at_1, rfl⟩
theorem d0_2 : DAt B0 2 (.istore_n 1) 1 3 := ⟨at_2, rfl⟩
theorem d0_3 : DAt B0 3 (.new 10) 3 6 := ⟨at_3, rfl⟩
theorem d0_6 : DAt B0 6 (.dup) 1 7 := ⟨at_6, rfl⟩
theorem d0_7 : DAt B0 7 (.bipush 12) 2 9 := ⟨at_7, rfl⟩
theorem d0_9 : DAt B0 9 (.iload_n 1) 1 10 := ⟨at_9, rfl⟩
theorem d0_10 : DAt B0 10 (.ifCond .le 9) 3 13 := ⟨at_10, rfl⟩
theorem d0_13 : DAt B0 13 (.aload_n 0) 1 14 := ⟨at_13, rfl⟩
theorem d0_14 : DAt B0 14 (.iconst 0) 1 15 := ⟨at_14, rfl⟩
theorem d0_15 : DAt B0 15 (.iaload) 1 16 := ⟨at_15, rfl⟩
theorem d0_16 : DAt B0 16 (.goto 4) 3 19 := ⟨at_16, rfl⟩
theorem d0_19 : DAt B0 19 (.iconst 1) 1 20 := ⟨at_19, rfl⟩
theorem d0_20 : DAt B0 20 (.iload_n 1) 1 21 := ⟨at_20, rfl⟩
theorem d0_21 : DAt B0 21 (.iconst 1) 1 22 := ⟨at_21, rfl⟩
theorem d0_22 : DAt B0 22 (.if_icmp .le 9) 3 25 := ⟨at_22, rfl⟩
theorem d0_25 : DAt B0 25 (.aload_n 0) 1 26 := ⟨at_25, rfl⟩
theorem d0_26 : DAt B0 26 (.iconst 1) 1 27 := ⟨at_26, rfl⟩
theorem d0_27 : DAt B0 27 (.iaload) 1 28 := ⟨at_27, rfl⟩
theorem d0_28 : DAt B0 28 (.goto 4) 3 31 := ⟨at_28, rfl⟩
theorem d0_31 : DAt B0 31 (.iconst 0) 1 32 := ⟨at_31, rfl⟩
theorem d0_32 : DAt B0 32 (.invokespecial 54) 3 35 := ⟨at_32, rfl⟩
theorem d0_35 : DAt B0 35 (.astore_n 2) 1 36 := ⟨at_35, rfl⟩
theorem d0_36 : DAt B0 36 (.iconst 2) 1 37 := ⟨at_36, rfl⟩
theorem d0_37 : DAt B0 37 (.istore_n 3) 1 38 := ⟨at_37, rfl⟩
theorem d0_38 : DAt B0 38 (.iload_n 3) 1 39 := ⟨at_38, rfl⟩
theorem d0_39 : DAt B0 39 (.iconst 2) 1 40 := ⟨at_39, rfl⟩
theorem d0_40 : DAt B0 40 (.iadd) 1 41 := ⟨at_40, rfl⟩
theorem d0_41 : DAt B0 41 (.iload_n 1) 1 42 := ⟨at_41, rfl⟩
theorem d0_42 : DAt B0 42 (.if_icmp .ge 187) 3 45 := ⟨at_42, rfl⟩
theorem d0_45 : DAt B0 45 (.aload_n 0) 1 46 := ⟨at_45, rfl⟩
theorem d0_46 : DAt B0 46 (.iload_n 3) 1 47 := ⟨at_46, rfl⟩
theorem d0_47 : DAt B0 47 (.iaload) 1 48 := ⟨at_47, rfl⟩
theorem d0_48 : DAt B0 48 (.bipush 15) 2 50 := ⟨at_48, rfl⟩
theorem d0_50 : DAt B0 50 (.iand) 1 51 := ⟨at_50, rfl⟩
theorem d0_51 : DAt B0 51 (.istore 4) 2 53 := ⟨at_51, rfl⟩
theorem d0_53 : DAt B0 53 (.aload_n 0) 1 54 := ⟨at_53, rfl⟩
theorem d0_54 : DAt B0 54 (.iload_n 3) 1 55 := ⟨at_54, rfl⟩
theorem d0_55 : DAt B0 55 (.iconst 1) 1 56 := ⟨at_55, rfl⟩
theorem d0_56 : DAt B0 56 (.iadd) 1 57 := ⟨at_56, rfl⟩
theorem d0_57 : DAt B0 57 (.iaload) 1 58 := ⟨at_57, rfl⟩
theorem d0_58 : DAt B0 58 (.istore 5) 2 60 := ⟨at_58, rfl⟩
theorem d0_60 : DAt B0 60 (.aload_n 0) 1 61 := ⟨at_60, rfl⟩
theorem d0_61 : DAt B0 61 (.iload_n 3) 1 62 := ⟨at_61, rfl⟩
theorem d0_62 : DAt B0 62 (.iconst 2) 1 63 := ⟨at_62, rfl⟩
theorem d0_63 : DAt B0 63 (.iadd) 1 64 := ⟨at_63, rfl⟩
theorem d0_64 : DAt B0 64 (.iaload) 1 65 := ⟨at_64, rfl⟩
theorem d0_65 : DAt B0 65 (.istore 6) 2 67 := ⟨at_65, rfl⟩
theorem d0_67 : DAt B0 67 (.iload 5) 2 69 := ⟨at_67, rfl⟩
theorem d0_69 : DAt B0 69 (.bipush 7) 2 71 := ⟨at_69, rfl⟩
theorem d0_71 : DAt B0 71 (.iand) 1 72 := ⟨at_71, rfl⟩
theorem d0_72 : DAt B0 72 (.istore 7) 2 74 := ⟨at_72, rfl⟩
theorem d0_74 : DAt B0 74 (.iload 7) 2 76 := ⟨at_74, rfl⟩
theorem d0_76 : DAt B0 76 (.iconst 3) 1 77 := ⟨at_76, rfl⟩
theorem d0_77 : DAt B0 77 (.if_icmp .lt 9) 3 80 := ⟨at_77, rfl⟩
theorem d0_80 : DAt B0 80 (.iload 7) 2 82 := ⟨at_80, rfl⟩
theorem d0_82 : DAt B0 82 (.iconst 1) 1 83 := ⟨at_82, rfl⟩
theorem d0_83 : DAt B0 83 (.iand) 1 84 := ⟨at_83, rfl⟩
theorem d0_84 : DAt B0 84 (.istore 7) 2 86 := ⟨at_84, rfl⟩
theorem d0_86 : DAt B0 86 (.iload 4) 2 88 := ⟨at_86, rfl⟩
theorem d0_88 : DAt B0 88 (.ifCond .ne 23) 3 91 := ⟨at_88, rfl⟩
theorem d0_91 : DAt B0 91 (.aload_n 2) 1 92 := ⟨at_91, rfl⟩
theorem d0_92 : DAt B0 92 (.iload 5) 2 94 := ⟨at_92, rfl⟩
theorem d0_94 : DAt B0 94 (.bipush 15) 2 96 := ⟨at_94, rfl⟩
theorem d0_96 : DAt B0 96 (.iand) 1 97 := ⟨at_96, rfl⟩
theorem d0_97 : DAt B0 97 (.iload 6) 2 99 := ⟨at_97, rfl⟩
theorem d0_99 : DAt B0 99 (.bipush 31) 2 101 := ⟨at_99, rfl⟩
theorem d0_101 : DAt B0 101 (.iand) 1 102 := ⟨at_101, rfl⟩
theorem d0_102 : DAt B0 102 (.iconst 1) 1 103 := ⟨at_102, rfl⟩
theorem d0_103 : DAt B0 103 (.isub) 1 104 := ⟨at_103, rfl⟩
theorem d0_104 : DAt B0 104 (.invokevirtual 57) 3 107 := ⟨at_104, rfl⟩
theorem d0_107 : DAt B0 107 (.pop) 1 108 := ⟨at_107, rfl⟩
theorem d0_108 : DAt B0 108 (.goto 115) 3 111 := ⟨at_108, rfl⟩
theorem d0_111 : DAt B0 111 (.iload 4) 2 113 := ⟨at_111, rfl⟩
theorem d0_113 : DAt B0 113 (.iconst 1) 1 114 := ⟨at_113, rfl⟩
theorem d0_114 : DAt B0 114 (.if_icmp .ne 11) 3 117 := ⟨at_114, rfl⟩
theorem d0_117 : DAt B0 117 (.aload_n 2) 1 118 := ⟨at_117, rfl⟩
theorem d0_118 : DAt B0 118 (.invokevirtual 60) 3 121 := ⟨at_118, rfl⟩
theorem d0_121 : DAt B0 121 (.pop) 1 122 := ⟨at_121, rfl⟩
theorem d0_122 : DAt B0 122 (.goto 101) 3 125 := ⟨at_122, rfl⟩
theorem d0_125 : DAt B0 125 (.iload 4) 2 127 := ⟨at_125, rfl⟩
theorem d0_127 : DAt B0 127 (.iconst 2) 1 128 := ⟨at_127, rfl⟩
theorem d0_128 : DAt B0 128 (.if_icmp .ne 11) 3 131 := ⟨at_128, rfl⟩
theorem d0_131 : DAt B0 131 (.aload_n 2) 1 132 := ⟨at_131, rfl⟩
theorem d0_132 : DAt B0 132 (.invokevirtual 25) 3 135 := ⟨at_132, rfl⟩
theorem d0_135 : DAt B0 135 (.pop) 1 136 := ⟨at_135, rfl⟩
theorem d0_136 : DAt B0 136 (.goto 87) 3 139 := ⟨at_136, rfl⟩
theorem d0_139 : DAt B0 139 (.iload 4) 2 141 := ⟨at_139, rfl⟩
theorem d0_141 : DAt B0 141 (.iconst 3) 1 142 := ⟨at_141, rfl⟩
theorem d0_142 : DAt B0 142 (.if_icmp .ne 13) 3 145 := ⟨at_142, rfl⟩
theorem d0_145 : DAt B0 145 (.aload_n 2) 1 146 := ⟨at_145, rfl⟩
theorem d0_146 : DAt B0 146 (.iload 7) 2 148 := ⟨at_146, rfl⟩
theorem d0_148 : DAt B0 148 (.invokevirtual 63) 3 151 := ⟨at_148, rfl⟩
theorem d0_151 : DAt B0 151 (.pop) 1 152 := ⟨at_151, rfl⟩
theorem d0_152 : DAt B0 152 (.goto 71) 3 155 := ⟨at_152, rfl⟩
theorem d0_155 : DAt B0 155 (.iload 4) 2 157 := ⟨at_155, rfl⟩
theorem d0_157 : DAt B0 157 (.iconst 4) 1 158 := ⟨at_157, rfl⟩
theorem d0_158 : DAt B0 158 (.if_icmp .ne 13) 3 161 := ⟨at_158, rfl⟩
theorem d0_161 : DAt B0 161 (.aload_n 2) 1 162 := ⟨at_161, rfl⟩
theorem d0_162 : DAt B0 162 (.iload 7) 2 164 := ⟨at_162, rfl⟩
theorem d0_164 : DAt B0 164 (.invokevirtual 66) 3 167 := ⟨at_164, rfl⟩
theorem d0_167 : DAt B0 167 (.pop) 1 168 := ⟨at_167, rfl⟩
theorem d0_168 : DAt B0 168 (.goto 55) 3 171 := ⟨at_168, rfl⟩
theorem d0_171 : DAt B0 171 (.iload 4) 2 173 := ⟨at_171, rfl⟩
theorem d0_173 : DAt B0 173 (.iconst 5) 1 174 := ⟨at_173, rfl⟩
theorem d0_174 : DAt B0 174 (.if_icmp .ne 13) 3 177 := ⟨at_174, rfl⟩
theorem d0_177 : DAt B0 177 (.aload_n 2) 1 178 := ⟨at_177, rfl⟩
theorem d0_178 : DAt B0 178 (.iload 7) 2 180 := ⟨at_178, rfl⟩
theorem d0_180 : DAt B0 180 (.invokevirtual 69) 3 183 := ⟨at_180, rfl⟩
theorem d0_183 : DAt B0 183 (.pop) 1 184 := ⟨at_183, rfl⟩
theorem d0_184 : DAt B0 184 (.goto 39) 3 187 := ⟨at_184, rfl⟩
theorem d0_187 : DAt B0 187 (.iload 4) 2 189 := ⟨at_187, rfl⟩
theorem d0_189 : DAt B0 189 (.bipush 6) 2 191 := ⟨at_189, rfl⟩
theorem d0_191 : DAt B0 191 (.if_icmp .ne 11) 3 194 := ⟨at_191, rfl⟩
theorem d0_194 : DAt B0 194 (.aload_n 2) 1 195 := ⟨at_194, rfl⟩
theorem d0_195 : DAt B0 195 (.invokevirtual 44) 3 198 := ⟨at_195, rfl⟩
theorem d0_198 : DAt B0 198 (.pop) 1 199 := ⟨at_198, rfl⟩
theorem d0_199 : DAt B0 199 (.goto 24) 3 202 := ⟨at_199, rfl⟩
theorem d0_202 : DAt B0 202 (.iload 4) 2 204 := ⟨at_202, rfl⟩
theorem d0_204 : DAt B0 204 (.bipush 15) 2 206 := ⟨at_204, rfl⟩
theorem d0_206 : DAt B0 206 (.if_icmp .ne 12) 3 209 := ⟨at_206, rfl⟩
theorem d0_209 : DAt B0 209 (.aload_n 2) 1 210 := ⟨at_209, rfl⟩
theorem d0_210 : DAt B0 210 (.invokestatic 72) 3 213 := ⟨at_210, rfl⟩
theorem d0_213 : DAt B0 213 (.ifCond .ne 10) 3 216 := ⟨at_213, rfl⟩
theorem d0_216 : DAt B0 216 (.iconst 0) 1 217 := ⟨at_216, rfl⟩
theorem d0_217 : DAt B0 217 (.ireturn) 1 218 := ⟨at_217, rfl⟩
theorem d0_218 : DAt B0 218 (.aload_n 2) 1 219 := ⟨at_218, rfl⟩
theorem d0_219 : DAt B0 219 (.invokevirtual 32) 3 222 := ⟨at_219, rfl⟩
theorem d0_222 : DAt B0 222 (.pop) 1 223 := ⟨at_222, rfl⟩
theorem d0_223 : DAt B0 223 (.iinc 3 3) 3 226 := ⟨at_223, rfl⟩
theorem d0_226 : DAt B0 226 (.goto (-188)) 3 229 := ⟨at_226, rfl⟩
theorem d0_229 : DAt B0 229 (.aload_n 2) 1 230 := ⟨at_229, rfl⟩
theorem d0_230 : DAt B0 230 (.invokestatic 72) 3 233 := ⟨at_230, rfl⟩
theorem d0_233 : DAt B0 233 (.ireturn) 1 234 := ⟨at_233, rfl⟩
theorem ar1 : arity B1 3 := ⟨[.int, .int, .int], none, by decide +kernel, rfl⟩
theorem ar2 : arity B2 3 := ⟨[.int, .int, .int], some .int, by decide +kernel, rfl⟩
theorem ar3 : arity B3 0 := ⟨[], some .int, by decide +kernel, rfl⟩
theorem ar4 : arity B4 0 := ⟨[], none, by decide +kernel, rfl⟩
theorem ar5 : arity B5 2 := ⟨[.int, .int], some .int, by decide +kernel, rfl⟩
theorem ar6 : arity B6 1 := ⟨[.int], some .int, by decide +kernel, rfl⟩
theorem ar7 : arity B7 0 := ⟨[], some .int, by decide +kernel, rfl⟩
theorem ar8 : arity B8 1 := ⟨[.int], some .boolean, by decide +kernel, rfl⟩
theorem ar9 : arity B9 1 := ⟨[.int], some .boolean, by decide +kernel, rfl⟩
theorem ar10 : arity B10 1 := ⟨[.int], none, by decide +kernel, rfl⟩
theorem ar11 : arity B11 1 := ⟨[(.object "MirrorResync")], some .boolean, by decide +kernel, rfl⟩
theorem ar12 : arity B12 0 := ⟨[], some .boolean, by decide +kernel, rfl⟩
theorem ar13 : arity B13 0 := ⟨[], some .int, by decide +kernel, rfl⟩
theorem ar14 : arity B14 1 := ⟨[.int], some .int, by decide +kernel, rfl⟩
theorem ar15 : arity B15 2 := ⟨[(.object "MirrorResync"), .int], some .long, by decide +kernel, rfl⟩
theorem ar16 : arity B16 2 := ⟨[.int, .int], some .int, by decide +kernel, rfl⟩
theorem ar17 : arity B17 1 := ⟨[.int], some .int, by decide +kernel, rfl⟩
theorem ar18 : arity B18 0 := ⟨[], some .int, by decide +kernel, rfl⟩
theorem ar19 : arity B19 0 := ⟨[], some .int, by decide +kernel, rfl⟩
theorem ar20 : arity B20 2 := ⟨[.long, .int], some .int, by decide +kernel, rfl⟩
theorem ar21 : arity B21 1 := ⟨[.int], some .int, by decide +kernel, rfl⟩
theorem ar22 : arity B22 0 := ⟨[], some .int, by decide +kernel, rfl⟩
theorem ar23 : arity B23 1 := ⟨[.int], some .int, by decide +kernel, rfl⟩
theorem ar24 : arity B24 1 := ⟨[.int], some .int, by decide +kernel, rfl⟩
theorem ar25 : arity B25 0 := ⟨[], none, by decide +kernel, rfl⟩
theorem ar26 : arity B26 1 := ⟨[.int], none, by decide +kernel, rfl⟩
theorem ar27 : arity B27 0 := ⟨[], some .boolean, by decide +kernel, rfl⟩
theorem ar28 : arity B28 1 := ⟨[.int], some .int, by decide +kernel, rfl⟩
theorem ar29 : arity B29 2 := ⟨[.int, .int], none, by decide +kernel, rfl⟩
theorem ar30 : arity B30 0 := ⟨[], none, by decide +kernel, rfl⟩
theorem ar31 : arity B31 1 := ⟨[.int], none, by decide +kernel, rfl⟩
theorem ar32 : arity B32 0 := ⟨[], none, by decide +kernel, rfl⟩
theorem ar33 : arity B33 0 := ⟨[], none, by decide +kernel, rfl⟩
theorem cw1 : code_w B1 := ⟨mem1 5 rfl, mem1 2 rfl, by decide⟩
theorem cw2 : code_w B2 := ⟨mem1 25 rfl, mem1 2 rfl, by decide⟩
theorem cw3 : code_w B3 := ⟨mem1 48 rfl, mem1 2 rfl, by decide⟩
theorem cw4 : code_w B4 := ⟨mem1 52 rfl, mem1 2 rfl, by decide⟩
theorem cw5 : code_w B5 := ⟨mem1 57 rfl, mem1 2 rfl, by decide⟩
theorem cw6 : code_w B6 := ⟨mem1 62 rfl, mem1 2 rfl, by decide⟩
theorem cw7 : code_w B7 := ⟨mem1 67 rfl, mem1 2 rfl, by decide⟩
theorem cw8 : code_w B8 := ⟨mem1 71 rfl, mem1 2 rfl, by decide⟩
theorem cw9 : code_w B9 := ⟨mem1 75 rfl, mem1 2 rfl, by decide⟩
theorem cw10 : code_w B10 := ⟨mem1 80 rfl, mem1 2 rfl, by decide⟩
theorem cw11 : code_w B11 := ⟨mem1 84 rfl, mem1 83 rfl, by decide⟩
theorem cw12 : code_w B12 := ⟨mem1 89 rfl, mem1 2 rfl, by decide⟩
theorem cw13 : code_w B13 := ⟨mem1 94 rfl, mem1 2 rfl, by decide⟩
theorem cw14 : code_w B14 := ⟨mem1 99 rfl, mem1 2 rfl, by decide⟩
theorem cw15 : code_w B15 := ⟨mem1 102 rfl, mem1 83 rfl, by decide⟩
theorem cw16 : code_w B16 := ⟨mem1 107 rfl, mem1 2 rfl, by decide⟩
theorem cw17 : code_w B17 := ⟨mem1 112 rfl, mem1 2 rfl, by decide⟩
theorem cw18 : code_w B18 := ⟨mem1 117 rfl, mem1 2 rfl, by decide⟩
theorem cw19 : code_w B19 := ⟨mem1 121 rfl, mem1 2 rfl, by decide⟩
theorem cw20 : code_w B20 := ⟨mem1 124 rfl, mem1 83 rfl, by decide⟩
theorem cw21 : code_w B21 := ⟨mem1 130 rfl, mem1 2 rfl, by decide⟩
theorem cw22 : code_w B22 := ⟨mem1 135 rfl, mem1 2 rfl, by decide⟩
theorem cw23 : code_w B23 := ⟨mem1 140 rfl, mem1 2 rfl, by decide⟩
theorem cw24 : code_w B24 := ⟨mem1 144 rfl, mem1 2 rfl, by decide⟩
theorem cw25 : code_w B25 := ⟨mem1 148 rfl, mem1 2 rfl, by decide⟩
theorem cw26 : code_w B26 := ⟨mem1 152 rfl, mem1 2 rfl, by decide⟩
theorem cw27 : code_w B27 := ⟨mem1 156 rfl, mem1 2 rfl, by decide⟩
theorem cw28 : code_w B28 := ⟨mem1 161 rfl, mem1 2 rfl, by decide⟩
theorem cw29 : code_w B29 := ⟨mem1 165 rfl, mem1 2 rfl, by decide⟩
theorem cw30 : code_w B30 := ⟨mem1 169 rfl, mem1 2 rfl, by decide⟩
theorem cw31 : code_w B31 := ⟨mem1 173 rfl, mem1 2 rfl, by decide⟩
theorem cw32 : code_w B32 := ⟨mem1 177 rfl, mem1 2 rfl, by decide⟩
theorem cw33 : code_w B33 := ⟨mem1 181 rfl, mem1 2 rfl, by decide⟩
theorem rk0_3_0 : room_ok B0 B3 0 := by decide
theorem rk0_5_0 : room_ok B0 B5 0 := by decide
theorem rk0_6_0 : room_ok B0 B6 0 := by decide
theorem rk0_7_0 : room_ok B0 B7 0 := by decide
theorem rk0_11_0 : room_ok B0 B11 0 := by decide
theorem rk0_18_0 : room_ok B0 B18 0 := by decide
theorem rk0_22_0 : room_ok B0 B22 0 := by decide
theorem rk0_23_0 : room_ok B0 B23 0 := by decide
theorem rk0_28_0 : room_ok B0 B28 0 := by decide
theorem rk1_2_1 : room_ok B1 B2 1 := by decide
theorem rk3_4_0 : room_ok B3 B4 0 := by decide
theorem rk5_9_0 : room_ok B5 B9 0 := by decide
theorem rk5_10_0 : room_ok B5 B10 0 := by decide
theorem rk6_8_0 : room_ok B6 B8 0 := by decide
theorem rk11_7_0 : room_ok B11 B7 0 := by decide
theorem rk11_12_0 : room_ok B11 B12 0 := by decide
theorem rk11_13_0 : room_ok B11 B13 0 := by decide
theorem rk11_14_0 : room_ok B11 B14 0 := by decide
theorem rk11_15_0 : room_ok B11 B15 0 := by decide
theorem rk11_18_0 : room_ok B11 B18 0 := by decide
theorem rk11_20_0 : room_ok B11 B20 0 := by decide
theorem rk11_21_0 : room_ok B11 B21 0 := by decide
theorem rk11_22_0 : room_ok B11 B22 0 := by decide
theorem rk14_8_0 : room_ok B14 B8 0 := by decide
theorem rk15_16_0 : room_ok B15 B16 0 := by decide
theorem rk15_17_0 : room_ok B15 B17 0 := by decide
theorem rk16_8_0 : room_ok B16 B8 0 := by decide
theorem rk16_9_0 : room_ok B16 B9 0 := by decide
theorem rk17_9_0 : room_ok B17 B9 0 := by decide
theorem rk18_19_0 : room_ok B18 B19 0 := by decide
theorem rk18_29_0 : room_ok B18 B29 0 := by decide
theorem rk18_30_0 : room_ok B18 B30 0 := by decide
theorem rk21_9_0 : room_ok B21 B9 0 := by decide
theorem rk22_25_0 : room_ok B22 B25 0 := by decide
theorem rk23_24_0 : room_ok B23 B24 0 := by decide
theorem rk24_8_0 : room_ok B24 B8 0 := by decide
theorem rk25_4_0 : room_ok B25 B4 0 := by decide
theorem rk25_26_0 : room_ok B25 B26 0 := by decide
theorem rk25_27_0 : room_ok B25 B27 0 := by decide
theorem rk25_33_0 : room_ok B25 B33 0 := by decide
theorem rk28_24_0 : room_ok B28 B24 0 := by decide
theorem rk28_31_0 : room_ok B28 B31 0 := by decide
theorem rk28_32_0 : room_ok B28 B32 0 := by decide
theorem rk32_10_0 : room_ok B32 B10 0 := by decide
def X_clamp (i0 : Int32) (i1 : Int32) (i2 : Int32) : Option (Int32) :=
  if i0 < i1 then
    some i1
  else
    if i2 < i0 then
      some i2
    else
      some i0
set_option maxRecDepth 65536 in
set_option maxHeartbeats 4000000 in
theorem X_clamp_p {C : Ctx} {G : AH} {res : Int32} (i0 : Int32) (i1 : Int32) (i2 : Int32) (hf : X_clamp i0 i1 i2 = some res) : Runs C B2 0 0 0 [vi i0, vi i1, vi i2] [] G (Ans (some (.int res)) G) := by
  delta X_clamp at hf
  refine Runs.iloadN d2_0 rfl <| Runs.iloadN d2_1 rfl <| ?_
  refine ite_el hf (fun hc1 hf => ?_) (fun hc1 hf => ?_)
  · refine Runs.icN d2_2 (tlt hc1).2.1 <| ?_
    obtain rfl := Option.some.inj hf
    exact Runs.iloadN d2_5 rfl <| Runs.retI d2_6 rfl ⟨by decide, by decide⟩ ⟨rfl, rfl⟩
  · refine Runs.icY (pc' := 7) d2_2 (flt hc1).2.1 (by decide) <| ?_
    refine Runs.iloadN d2_7 rfl <| Runs.iloadN d2_8 rfl <| ?_
    refine ite_el hf (fun hc2 hf => ?_) (fun hc2 hf => ?_)
    · refine Runs.icN d2_9 (tlt hc2).2.2.2 <| ?_
      obtain rfl := Option.some.inj hf
      exact Runs.iloadN d2_12 rfl <| Runs.retI d2_13 rfl ⟨by decide, by decide⟩ ⟨rfl, rfl⟩
    · refine Runs.icY (pc' := 14) d2_9 (flt hc2).2.2.2 (by decide) <| ?_
      obtain rfl := Option.some.inj hf
      exact Runs.iloadN d2_14 rfl <| Runs.retI d2_15 rfl ⟨by decide, by decide⟩ ⟨rfl, rfl⟩
theorem X_clamp_pay {C : Ctx} {G : AH} {res : Int32} {i0 : Int32} {i1 : Int32} {i2 : Int32} (hf : X_clamp i0 i1 i2 = some res) : Pays C B2 [.int i0, .int i1, .int i2] G (Ans (some (.int res)) G) :=
  Pays.of pnK (Nat.le_of_ble_eq_true rfl) (P := [vi i0, vi i1, vi i2]) 0 rfl (X_clamp_p i0 i1 i2 hf)
def X_init (i1 : Int32) (i2 : Int32) (i3 : Int32) : Option (Rec) :=
  (X_clamp i1 (8 : Int32) (32 : Int32)).bind fun r1 =>
  (X_clamp i2 (1 : Int32) (4 : Int32)).bind fun r3 =>
  (X_clamp i3 (0 : Int32) (4 : Int32)).bind fun r5 =>
  dvz r3 <|
  chk (2 : Int32) (0 : Int32) <|
  chk (2 : Int32) (1 : Int32) <|
  some (sI (sI (sI (sI (sI (sA (sA (sI (sI (sI (sI zrec 0 r1) 1 r3) 2 r5) 3 (((r1 + r3) - (1 : Int32)) / r3)) 2 (0 : Int32) (0 : Int32)) 2 (1 : Int32) (0 : Int32)) 4 (0 : Int32)) 5 (0 : Int32)) 6 (-1 : Int32)) 7 (0 : Int32)) 8 (-1 : Int32))
set_option maxRecDepth 65536 in
set_option maxHeartbeats 4000000 in
theorem X_init_p {C : Ctx} {a : Nat} {H : List (Nat × Nat × Rec)} {res : Rec} (i1 : Int32) (i2 : Int32) (i3 : Int32) (hf : X_init i1 i2 i3 = some res) : Runs C B1 0 0 0 [vr a, vi i1, vi i2, vi i3] [] (a + 1, (a, 0, zrec) :: H) (Ans none (a + 1 + 6, (a, 6, res) :: H)) := by
  delta X_init at hf
  refine Runs.aloadN d1_0 rfl <| Runs.initO (W := 0) d1_1 w6 w7 w8 rfl (by decide) <| Runs.aloadN d1_4 rfl <| Runs.bipush d1_5 cb_64 <| Runs.newArr (j' := 1) (top' := a + 1 + 1) (k' := 1) (n' := 64) d1_7 d1_9 fA_0 w10 rfl w9 (Or.inl w11) rfl (by decide) ⟨by decide, by decide⟩ ⟨fun _ => rfl, fun _ => rfl⟩ rfl rfl rfl (by decide) <| Runs.aloadN d1_12 rfl <| Runs.bipush d1_13 cb_32 <| Runs.newArr (j' := 2) (top' := a + 1 + 2) (k' := 2) (n' := 96) d1_15 d1_17 fA_1 w12 rfl w9 (Or.inl w13) rfl (by decide) ⟨by decide, by decide⟩ ⟨fun _ => rfl, fun _ => rfl⟩ rfl rfl rfl (by decide) <| Runs.aloadN d1_20 rfl <| Runs.iconst d1_21 ci_2 <| Runs.newArr (j' := 3) (top' := a + 1 + 3) (k' := 3) (n' := 98) d1_22 d1_24 fA_2 w14 rfl w9 (Or.inl w15) rfl (by decide) ⟨by decide, by decide⟩ ⟨fun _ => rfl, fun _ => rfl⟩ rfl rfl rfl (by decide) <| Runs.aloadN d1_27 rfl <| ?_
  refine Runs.bipush d1_28 cb_32 <| Runs.newArr (j' := 4) (top' := a + 1 + 4) (k' := 4) (n' := 130) d1_30 d1_32 fA_3 w17 rfl w16 (Or.inl w18) rfl (by decide) ⟨by decide, by decide⟩ ⟨fun _ => rfl, fun _ => rfl⟩ rfl rfl rfl (by decide) <| Runs.aloadN d1_35 rfl <| Runs.bipush d1_36 cb_32 <| Runs.newArr (j' := 5) (top' := a + 1 + 5) (k' := 5) (n' := 162) d1_38 d1_40 fA_4 w19 rfl w16 (Or.inl w20) rfl (by decide) ⟨by decide, by decide⟩ ⟨fun _ => rfl, fun _ => rfl⟩ rfl rfl rfl (by decide) <| Runs.aloadN d1_43 rfl <| Runs.bipush d1_44 cb_32 <| Runs.newArr (j' := 6) (top' := a + 1 + 6) (k' := 6) (n' := 194) d1_46 d1_48 fA_5 w21 rfl w9 (Or.inl w22) rfl (by decide) ⟨by decide, by decide⟩ ⟨fun _ => rfl, fun _ => rfl⟩ rfl rfl rfl (by decide) <| Runs.aloadN d1_51 rfl <| Runs.iloadN d1_52 rfl <| Runs.bipush d1_53 cb_8 <| Runs.bipush d1_55 cb_32 <| ?_
  refine bind_el hf fun r1 hg2 hf => ?_
  refine Runs.callS (N := B2) (W := 1) (as := [.int i1, .int (8 : Int32), .int (32 : Int32)]) (S' := [.ref a]) d1_57 w23 w24 cw2 ar2 rk1_2_1 (by decide) rfl rfl (X_clamp_pay hg2) <| ans1 <| Runs.putI d1_60 w26 fS_0 (Or.inl w27) <| Runs.aloadN d1_63 rfl <| Runs.iloadN d1_64 rfl <| Runs.iconst d1_65 ci_1 <| Runs.iconst d1_66 ci_4 <| ?_
  refine bind_el hf fun r3 hg4 hf => ?_
  refine Runs.callS (N := B2) (W := 1) (as := [.int i2, .int (1 : Int32), .int (4 : Int32)]) (S' := [.ref a]) d1_67 w23 w24 cw2 ar2 rk1_2_1 (by decide) rfl rfl (X_clamp_pay hg4) <| ans1 <| Runs.putI d1_70 w28 fS_1 (Or.inl w29) <| Runs.aloadN d1_73 rfl <| Runs.iloadN d1_74 rfl <| Runs.iconst d1_75 ci_0 <| Runs.iconst d1_76 ci_4 <| ?_
  refine bind_el hf fun r5 hg6 hf => ?_
  refine Runs.callS (N := B2) (W := 1) (as := [.int i3, .int (0 : Int32), .int (4 : Int32)]) (S' := [.ref a]) d1_77 w23 w24 cw2 ar2 rk1_2_1 (by decide) rfl rfl (X_clamp_pay hg6) <| ans1 <| Runs.putI d1_80 w30 fS_2 (Or.inl w31) <| Runs.aloadN d1_83 rfl <| Runs.aloadN d1_84 rfl <| Runs.getI d1_85 w26 fS_0 <| Runs.aloadN d1_88 rfl <| Runs.getI d1_89 w28 fS_1 <| Runs.iadd d1_92 <| Runs.iconst d1_93 ci_1 <| Runs.isub d1_94 <| Runs.aloadN d1_95 rfl <| Runs.getI d1_96 w28 fS_1 <| ?_
  refine dvz_el hf fun hz7 hf => ?_
  refine Runs.idiv d1_99 hz7 <| Runs.putI d1_100 w32 fS_3 (Or.inl w33) <| Runs.aloadN d1_103 rfl <| Runs.getA d1_104 fA_2 w14 (by decide) <| Runs.iconst d1_107 ci_0 <| Runs.iconst d1_108 ci_0 <| ?_
  refine chk_el hf fun hi8 hf => ?_
  refine Runs.iastoreA d1_109 fA_2 (by decide) hi8 <| Runs.aloadN d1_110 rfl <| Runs.getA d1_111 fA_2 w14 (by decide) <| Runs.iconst d1_114 ci_1 <| Runs.iconst d1_115 ci_0 <| ?_
  refine chk_el hf fun hi9 hf => ?_
  refine Runs.iastoreA d1_116 fA_2 (by decide) hi9 <| Runs.aloadN d1_117 rfl <| Runs.iconst d1_118 ci_0 <| Runs.putZ (y := (0 : Int32)) d1_119 w34 fS_4 (Or.inl w35) rfl <| Runs.aloadN d1_122 rfl <| Runs.iconst d1_123 ci_0 <| Runs.putZ (y := (0 : Int32)) d1_124 w36 fS_5 (Or.inl w37) rfl <| Runs.aloadN d1_127 rfl <| Runs.iconst d1_128 ci_m1 <| Runs.putI d1_129 w38 fS_6 (Or.inl w39) <| Runs.aloadN d1_132 rfl <| Runs.iconst d1_133 ci_0 <| ?_
  obtain rfl := Option.some.inj hf
  exact Runs.putI d1_134 w40 fS_7 (Or.inl w41) <| Runs.aloadN d1_137 rfl <| Runs.iconst d1_138 ci_m1 <| Runs.putI d1_139 w42 fS_8 (Or.inl w43) <| Runs.retV d1_142 rfl ⟨by decide, by decide⟩ ⟨rfl, rfl⟩
theorem X_init_pay {C : Ctx} {a : Nat} {H : List (Nat × Nat × Rec)} {res : Rec} {i1 : Int32} {i2 : Int32} {i3 : Int32} (hf : X_init i1 i2 i3 = some res) : Pays C B1 [.ref a, .int i1, .int i2, .int i3] (a + 1, (a, 0, zrec) :: H) (Ans none (a + 1 + 6, (a, 6, res) :: H)) :=
  Pays.of pnK (Nat.le_of_ble_eq_true rfl) (P := [vr a, vi i1, vi i2, vi i3]) 0 rfl (X_init_p i1 i2 i3 hf)
def X_validBlock (ob : Rec) (i1 : Int32) : Option (Int32) :=
  if i1 < (0 : Int32) then
    some (0 : Int32)
  else
    if i1 < (gI ob 0) then
      some (1 : Int32)
    else
      some (0 : Int32)
set_option maxRecDepth 65536 in
set_option maxHeartbeats 4000000 in
theorem X_validBlock_p {C : Ctx} {top : Nat} {a : Nat} {H : List (Nat × Nat × Rec)} {ob : Rec} {res : Int32} (i1 : Int32) (hf : X_validBlock ob i1 = some res) : Runs C B9 0 0 0 [vr a, vi i1] [] (top, (a, 6, ob) :: H) (Ans (some (.int res)) (top, (a, 6, ob) :: H)) := by
  delta X_validBlock at hf
  refine Runs.iloadN d9_0 rfl <| ?_
  refine ite_el hf (fun hc1 hf => ?_) (fun hc1 hf => ?_)
  · refine Runs.ifY (pc' := 16) d9_1 (tlt hc1).1 (by decide) <| ?_
    obtain rfl := Option.some.inj hf
    exact Runs.iconst d9_16 ci_0 <| Runs.retZ (y := (0 : Int32)) d9_17 rfl ⟨by decide, by decide⟩ rfl ⟨rfl, rfl⟩
  · refine Runs.ifN d9_1 (flt hc1).1 <| ?_
    refine Runs.iloadN d9_4 rfl <| Runs.aloadN d9_5 rfl <| Runs.getI d9_6 w26 fS_0 <| ?_
    refine ite_el hf (fun hc2 hf => ?_) (fun hc2 hf => ?_)
    · refine Runs.icN d9_9 (tlt hc2).2.1 <| ?_
      obtain rfl := Option.some.inj hf
      exact Runs.iconst d9_12 ci_1 <| Runs.goto (pc' := 17) d9_13 (by decide) <| Runs.retZ (y := (1 : Int32)) d9_17 rfl ⟨by decide, by decide⟩ rfl ⟨rfl, rfl⟩
    · refine Runs.icY (pc' := 16) d9_9 (flt hc2).2.1 (by decide) <| ?_
      obtain rfl := Option.some.inj hf
      exact Runs.iconst d9_16 ci_0 <| Runs.retZ (y := (0 : Int32)) d9_17 rfl ⟨by decide, by decide⟩ rfl ⟨rfl, rfl⟩
theorem X_validBlock_pay {C : Ctx} {top : Nat} {a : Nat} {H : List (Nat × Nat × Rec)} {ob : Rec} {res : Int32} {i1 : Int32} (hf : X_validBlock ob i1 = some res) : Pays C B9 [.ref a, .int i1] (top, (a, 6, ob) :: H) (Ans (some (.int res)) (top, (a, 6, ob) :: H)) :=
  Pays.of pnK (Nat.le_of_ble_eq_true rfl) (P := [vr a, vi i1]) 0 rfl (X_validBlock_p i1 hf)
def X_markDirty (ob : Rec) (i1 : Int32) : Option (Rec) :=
  chk (32 : Int32) i1 <|
  chk (32 : Int32) i1 <|
  chk (32 : Int32) i1 <|
  some (sA (sA (sA ob 3 i1 (1 : Int32)) 4 i1 (0 : Int32)) 5 i1 (0 : Int32))
set_option maxRecDepth 65536 in
set_option maxHeartbeats 4000000 in
theorem X_markDirty_p {C : Ctx} {top : Nat} {a : Nat} {H : List (Nat × Nat × Rec)} {res : Rec} (ob : Rec) (i1 : Int32) (hf : X_markDirty ob i1 = some res) : Runs C B10 0 0 0 [vr a, vi i1] [] (top, (a, 6, ob) :: H) (Ans none (top, (a, 6, res) :: H)) := by
  delta X_markDirty at hf
  refine Runs.aloadN d10_0 rfl <| Runs.getA d10_1 fA_3 w17 (by decide) <| Runs.iloadN d10_4 rfl <| Runs.iconst d10_5 ci_1 <| ?_
  refine chk_el hf fun hi1 hf => ?_
  refine Runs.bastoreA (y := (1 : Int32)) d10_6 fA_3 (by decide) hi1 rfl <| Runs.aloadN d10_7 rfl <| Runs.getA d10_8 fA_4 w19 (by decide) <| Runs.iloadN d10_11 rfl <| Runs.iconst d10_12 ci_0 <| ?_
  refine chk_el hf fun hi2 hf => ?_
  refine Runs.bastoreA (y := (0 : Int32)) d10_13 fA_4 (by decide) hi2 rfl <| Runs.aloadN d10_14 rfl <| Runs.getA d10_15 fA_5 w21 (by decide) <| Runs.iloadN d10_18 rfl <| Runs.iconst d10_19 ci_0 <| ?_
  refine chk_el hf fun hi3 hf => ?_
  obtain rfl := Option.some.inj hf
  exact Runs.iastoreA d10_20 fA_5 (by decide) hi3 <| Runs.retV d10_21 rfl ⟨by decide, by decide⟩ ⟨rfl, rfl⟩
theorem X_markDirty_pay {C : Ctx} {top : Nat} {a : Nat} {H : List (Nat × Nat × Rec)} {res : Rec} {ob : Rec} {i1 : Int32} (hf : X_markDirty ob i1 = some res) : Pays C B10 [.ref a, .int i1] (top, (a, 6, ob) :: H) (Ans none (top, (a, 6, res) :: H)) :=
  Pays.of pnK (Nat.le_of_ble_eq_true rfl) (P := [vr a, vi i1]) 0 rfl (X_markDirty_p ob i1 hf)
def X_write (ob : Rec) (i1 : Int32) (i2 : Int32) : Option (Int32 × Rec) :=
  if (gI ob 4) = (0 : Int32) then
    (X_validBlock ob i1).bind fun r2 =>
    if r2 = (0 : Int32) then
      some ((-2 : Int32), ob)
    else
      if i2 < (0 : Int32) then
        some ((-2 : Int32), ob)
      else
        if (65535 : Int32) < i2 then
          some ((-2 : Int32), ob)
        else
          if (gI ob 5) = (0 : Int32) then
            dvz (gI ob 1) <|
            (X_markDirty ob (i1 / (gI ob 1))).bind fun q9 =>
            some ((0 : Int32), (sI (sI (sI (sI q9 5 (1 : Int32)) 6 i1) 7 i2) 8 (0 : Int32)))
          else
            some ((-3 : Int32), ob)
  else
    some ((-1 : Int32), ob)
set_option maxRecDepth 65536 in
set_option maxHeartbeats 4000000 in
theorem X_write_p {C : Ctx} {top : Nat} {a : Nat} {H : List (Nat × Nat × Rec)} {res : Int32 × Rec} (ob : Rec) (i1 : Int32) (i2 : Int32) (hf : X_write ob i1 i2 = some res) : Runs C B5 0 0 0 [vr a, vi i1, vi i2] [] (top, (a, 6, ob) :: H) (Ans (some (.int res.1)) (top, (a, 6, res.2) :: H)) := by
  delta X_write at hf
  refine Runs.aloadN d5_0 rfl <| Runs.getI d5_1 w34 fS_4 <| ?_
  refine ite_el hf (fun hc1 hf => ?_) (fun hc1 hf => ?_)
  · refine Runs.ifY (pc' := 9) d5_4 (teq hc1).1 (by decide) <| ?_
    refine Runs.aloadN d5_9 rfl <| Runs.iloadN d5_10 rfl <| ?_
    refine bind_el hf fun r2 hg3 hf => ?_
    refine Runs.callP (N := B9) (W := 0) (as := [.int i1]) (S' := []) d5_11 w72 w73 w74 rfl cw9 ar9 rk5_9_0 (by decide) rfl rfl (X_validBlock_pay hg3) <| ans1 <| ?_
    refine ite_el hf (fun hc4 hf => ?_) (fun hc4 hf => ?_)
    · refine Runs.ifY (pc' := 27) d5_14 (teq hc4).1 (by decide) <| ?_
      obtain rfl := Option.some.inj hf
      exact Runs.bipush d5_27 cb_m2 <| Runs.retI d5_29 rfl ⟨by decide, by decide⟩ ⟨rfl, rfl⟩
    · refine Runs.ifN d5_14 (feq hc4).1 <| ?_
      refine Runs.iloadN d5_17 rfl <| ?_
      refine ite_el hf (fun hc5 hf => ?_) (fun hc5 hf => ?_)
      · refine Runs.ifY (pc' := 27) d5_18 (tlt hc5).1 (by decide) <| ?_
        obtain rfl := Option.some.inj hf
        exact Runs.bipush d5_27 cb_m2 <| Runs.retI d5_29 rfl ⟨by decide, by decide⟩ ⟨rfl, rfl⟩
      · refine Runs.ifN d5_18 (flt hc5).1 <| ?_
        refine Runs.iloadN d5_21 rfl <| Runs.ldc d5_22 w76 <| ?_
        refine ite_el hf (fun hc6 hf => ?_) (fun hc6 hf => ?_)
        · refine Runs.icN d5_24 (tlt hc6).2.2.2 <| ?_
          obtain rfl := Option.some.inj hf
          exact Runs.bipush d5_27 cb_m2 <| Runs.retI d5_29 rfl ⟨by decide, by decide⟩ ⟨rfl, rfl⟩
        · refine Runs.icY (pc' := 30) d5_24 (flt hc6).2.2.2 (by decide) <| ?_
          refine Runs.aloadN d5_30 rfl <| Runs.getI d5_31 w36 fS_5 <| ?_
          refine ite_el hf (fun hc7 hf => ?_) (fun hc7 hf => ?_)
          · refine Runs.ifY (pc' := 40) d5_34 (teq hc7).1 (by decide) <| ?_
            refine Runs.aloadN d5_40 rfl <| Runs.iloadN d5_41 rfl <| Runs.aloadN d5_42 rfl <| Runs.getI d5_43 w28 fS_1 <| ?_
            refine dvz_el hf fun hz8 hf => ?_
            refine Runs.idiv d5_46 hz8 <| ?_
            refine bind_el hf fun q9 hg10 hf => ?_
            refine Runs.callP (N := B10) (W := 0) (as := [.int (i1 / (gI ob 1))]) (S' := []) d5_47 w77 w78 w79 rfl cw10 ar10 rk5_10_0 (by decide) rfl rfl (X_markDirty_pay hg10) <| ans0 <| Runs.aloadN d5_50 rfl <| Runs.iconst d5_51 ci_1 <| Runs.putZ (y := (1 : Int32)) d5_52 w36 fS_5 (Or.inl w37) rfl <| Runs.aloadN d5_55 rfl <| Runs.iloadN d5_56 rfl <| Runs.putI d5_57 w38 fS_6 (Or.inl w39) <| Runs.aloadN d5_60 rfl <| Runs.iloadN d5_61 rfl <| Runs.putI d5_62 w40 fS_7 (Or.inl w41) <| Runs.aloadN d5_65 rfl <| Runs.iconst d5_66 ci_0 <| ?_
            obtain rfl := Option.some.inj hf
            exact Runs.putI d5_67 w42 fS_8 (Or.inl w43) <| Runs.iconst d5_70 ci_0 <| Runs.retI d5_71 rfl ⟨by decide, by decide⟩ ⟨rfl, rfl⟩
          · refine Runs.ifN d5_34 (feq hc7).1 <| ?_
            obtain rfl := Option.some.inj hf
            exact Runs.bipush d5_37 cb_m3 <| Runs.retI d5_39 rfl ⟨by decide, by decide⟩ ⟨rfl, rfl⟩
  · refine Runs.ifN d5_4 (feq hc1).1 <| ?_
    obtain rfl := Option.some.inj hf
    exact Runs.iconst d5_7 ci_m1 <| Runs.retI d5_8 rfl ⟨by decide, by decide⟩ ⟨rfl, rfl⟩
theorem X_write_pay {C : Ctx} {top : Nat} {a : Nat} {H : List (Nat × Nat × Rec)} {res : Int32 × Rec} {ob : Rec} {i1 : Int32} {i2 : Int32} (hf : X_write ob i1 i2 = some res) : Pays C B5 [.ref a, .int i1, .int i2] (top, (a, 6, ob) :: H) (Ans (some (.int res.1)) (top, (a, 6, res.2) :: H)) :=
  Pays.of pnK (Nat.le_of_ble_eq_true rfl) (P := [vr a, vi i1, vi i2]) 0 rfl (X_write_p ob i1 i2 hf)
def X_clearPending (ob : Rec) : Option (Rec) :=
  some (sI (sI (sI (sI ob 5 (0 : Int32)) 6 (-1 : Int32)) 7 (0 : Int32)) 8 (-1 : Int32))
set_option maxRecDepth 65536 in
set_option maxHeartbeats 4000000 in
theorem X_clearPending_p {C : Ctx} {top : Nat} {a : Nat} {H : List (Nat × Nat × Rec)} {res : Rec} (ob : Rec) (hf : X_clearPending ob = some res) : Runs C B4 0 0 0 [vr a] [] (top, (a, 6, ob) :: H) (Ans none (top, (a, 6, res) :: H)) := by
  delta X_clearPending at hf
  refine Runs.aloadN d4_0 rfl <| Runs.iconst d4_1 ci_0 <| Runs.putZ (y := (0 : Int32)) d4_2 w36 fS_5 (Or.inl w37) rfl <| Runs.aloadN d4_5 rfl <| Runs.iconst d4_6 ci_m1 <| Runs.putI d4_7 w38 fS_6 (Or.inl w39) <| Runs.aloadN d4_10 rfl <| Runs.iconst d4_11 ci_0 <| Runs.putI d4_12 w40 fS_7 (Or.inl w41) <| Runs.aloadN d4_15 rfl <| Runs.iconst d4_16 ci_m1 <| Runs.putI d4_17 w42 fS_8 (Or.inl w43) <| ?_
  obtain rfl := Option.some.inj hf
  exact Runs.retV d4_20 rfl ⟨by decide, by decide⟩ ⟨rfl, rfl⟩
theorem X_clearPending_pay {C : Ctx} {top : Nat} {a : Nat} {H : List (Nat × Nat × Rec)} {res : Rec} {ob : Rec} (hf : X_clearPending ob = some res) : Pays C B4 [.ref a] (top, (a, 6, ob) :: H) (Ans none (top, (a, 6, res) :: H)) :=
  Pays.of pnK (Nat.le_of_ble_eq_true rfl) (P := [vr a]) 0 rfl (X_clearPending_p ob hf)
def X_crash (ob : Rec) : Option (Int32 × Rec) :=
  if (gI ob 4) = (0 : Int32) then
    (X_clearPending ob).bind fun q2 =>
    some ((0 : Int32), (sI q2 4 (1 : Int32)))
  else
    some ((-1 : Int32), ob)
set_option maxRecDepth 65536 in
set_option maxHeartbeats 4000000 in
theorem X_crash_p {C : Ctx} {top : Nat} {a : Nat} {H : List (Nat × Nat × Rec)} {res : Int32 × Rec} (ob : Rec) (hf : X_crash ob = some res) : Runs C B3 0 0 0 [vr a] [] (top, (a, 6, ob) :: H) (Ans (some (.int res.1)) (top, (a, 6, res.2) :: H)) := by
  delta X_crash at hf
  refine Runs.aloadN d3_0 rfl <| Runs.getI d3_1 w34 fS_4 <| ?_
  refine ite_el hf (fun hc1 hf => ?_) (fun hc1 hf => ?_)
  · refine Runs.ifY (pc' := 9) d3_4 (teq hc1).1 (by decide) <| ?_
    refine Runs.aloadN d3_9 rfl <| ?_
    refine bind_el hf fun q2 hg3 hf => ?_
    obtain rfl := Option.some.inj hf
    exact Runs.callP (N := B4) (W := 0) (as := []) (S' := []) d3_10 w49 w50 w51 rfl cw4 ar4 rk3_4_0 (by decide) rfl rfl (X_clearPending_pay hg3) <| ans0 <| Runs.aloadN d3_13 rfl <| Runs.iconst d3_14 ci_1 <| Runs.putZ (y := (1 : Int32)) d3_15 w34 fS_4 (Or.inl w35) rfl <| Runs.iconst d3_18 ci_0 <| Runs.retI d3_19 rfl ⟨by decide, by decide⟩ ⟨rfl, rfl⟩
  · refine Runs.ifN d3_4 (feq hc1).1 <| ?_
    obtain rfl := Option.some.inj hf
    exact Runs.iconst d3_7 ci_m1 <| Runs.retI d3_8 rfl ⟨by decide, by decide⟩ ⟨rfl, rfl⟩
theorem X_crash_pay {C : Ctx} {top : Nat} {a : Nat} {H : List (Nat × Nat × Rec)} {res : Int32 × Rec} {ob : Rec} (hf : X_crash ob = some res) : Pays C B3 [.ref a] (top, (a, 6, ob) :: H) (Ans (some (.int res.1)) (top, (a, 6, res.2) :: H)) :=
  Pays.of pnK (Nat.le_of_ble_eq_true rfl) (P := [vr a]) 0 rfl (X_crash_p ob hf)
def X_restart (ob : Rec) : Option (Int32 × Rec) :=
  if (gI ob 4) = (0 : Int32) then
    some ((-4 : Int32), ob)
  else
    chk (2 : Int32) (0 : Int32) <|
    if (gA ob 2 (0 : Int32)) = (0 : Int32) then
      chk (2 : Int32) (1 : Int32) <|
      if (gA ob 2 (1 : Int32)) = (0 : Int32) then
        chk (2 : Int32) (1 : Int32) <|
        some ((0 : Int32), (sA (sI ob 4 (0 : Int32)) 2 (1 : Int32) (1 : Int32)))
      else
        some ((0 : Int32), (sI ob 4 (0 : Int32)))
    else
      some ((0 : Int32), (sI ob 4 (0 : Int32)))
set_option maxRecDepth 65536 in
set_option maxHeartbeats 4000000 in
theorem X_restart_p {C : Ctx} {top : Nat} {a : Nat} {H : List (Nat × Nat × Rec)} {res : Int32 × Rec} (ob : Rec) (hf : X_restart ob = some res) : Runs C B7 0 0 0 [vr a] [] (top, (a, 6, ob) :: H) (Ans (some (.int res.1)) (top, (a, 6, res.2) :: H)) := by
  delta X_restart at hf
  refine Runs.aloadN d7_0 rfl <| Runs.getI d7_1 w34 fS_4 <| ?_
  refine ite_el hf (fun hc1 hf => ?_) (fun hc1 hf => ?_)
  · refine Runs.ifN d7_4 (teq hc1).2 <| ?_
    obtain rfl := Option.some.inj hf
    exact Runs.bipush d7_7 cb_m4 <| Runs.retI d7_9 rfl ⟨by decide, by decide⟩ ⟨rfl, rfl⟩
  · refine Runs.ifY (pc' := 10) d7_4 (feq hc1).2 (by decide) <| ?_
    refine Runs.aloadN d7_10 rfl <| Runs.iconst d7_11 ci_0 <| Runs.putZ (y := (0 : Int32)) d7_12 w34 fS_4 (Or.inl w35) rfl <| Runs.aloadN d7_15 rfl <| Runs.getA d7_16 fA_2 w14 (by decide) <| Runs.iconst d7_19 ci_0 <| ?_
    refine chk_el hf fun hi2 hf => ?_
    refine Runs.ialoadA d7_20 fA_2 (by decide) hi2 <| ?_
    refine ite_el hf (fun hc3 hf => ?_) (fun hc3 hf => ?_)
    · refine Runs.ifN d7_21 (teq hc3).2 <| ?_
      refine Runs.aloadN d7_24 rfl <| Runs.getA d7_25 fA_2 w14 (by decide) <| Runs.iconst d7_28 ci_1 <| ?_
      refine chk_el hf fun hi4 hf => ?_
      refine Runs.ialoadA d7_29 fA_2 (by decide) hi4 <| ?_
      refine ite_el hf (fun hc5 hf => ?_) (fun hc5 hf => ?_)
      · refine Runs.ifN d7_30 (teq hc5).2 <| ?_
        refine Runs.aloadN d7_33 rfl <| Runs.getA d7_34 fA_2 w14 (by decide) <| Runs.iconst d7_37 ci_1 <| Runs.iconst d7_38 ci_1 <| ?_
        refine chk_el hf fun hi6 hf => ?_
        obtain rfl := Option.some.inj hf
        exact Runs.iastoreA d7_39 fA_2 (by decide) hi6 <| Runs.iconst d7_40 ci_0 <| Runs.retI d7_41 rfl ⟨by decide, by decide⟩ ⟨rfl, rfl⟩
      · refine Runs.ifY (pc' := 40) d7_30 (feq hc5).2 (by decide) <| ?_
        obtain rfl := Option.some.inj hf
        exact Runs.iconst d7_40 ci_0 <| Runs.retI d7_41 rfl ⟨by decide, by decide⟩ ⟨rfl, rfl⟩
    · refine Runs.ifY (pc' := 40) d7_21 (feq hc3).2 (by decide) <| ?_
      obtain rfl := Option.some.inj hf
      exact Runs.iconst d7_40 ci_0 <| Runs.retI d7_41 rfl ⟨by decide, by decide⟩ ⟨rfl, rfl⟩
theorem X_restart_pay {C : Ctx} {top : Nat} {a : Nat} {H : List (Nat × Nat × Rec)} {res : Int32 × Rec} {ob : Rec} (hf : X_restart ob = some res) : Pays C B7 [.ref a] (top, (a, 6, ob) :: H) (Ans (some (.int res.1)) (top, (a, 6, res.2) :: H)) :=
  Pays.of pnK (Nat.le_of_ble_eq_true rfl) (P := [vr a]) 0 rfl (X_restart_p ob hf)
def X_validLeg (ob : Rec) (i1 : Int32) : Option (Int32) :=
  if i1 = (0 : Int32) then
    some (1 : Int32)
  else
    if i1 = (1 : Int32) then
      some (1 : Int32)
    else
      some (0 : Int32)
set_option maxRecDepth 65536 in
set_option maxHeartbeats 4000000 in
theorem X_validLeg_p {C : Ctx} {top : Nat} {a : Nat} {H : List (Nat × Nat × Rec)} {ob : Rec} {res : Int32} (i1 : Int32) (hf : X_validLeg ob i1 = some res) : Runs C B8 0 0 0 [vr a, vi i1] [] (top, (a, 6, ob) :: H) (Ans (some (.int res)) (top, (a, 6, ob) :: H)) := by
  delta X_validLeg at hf
  refine Runs.iloadN d8_0 rfl <| ?_
  refine ite_el hf (fun hc1 hf => ?_) (fun hc1 hf => ?_)
  · refine Runs.ifY (pc' := 9) d8_1 (teq hc1).1 (by decide) <| ?_
    obtain rfl := Option.some.inj hf
    exact Runs.iconst d8_9 ci_1 <| Runs.goto (pc' := 14) d8_10 (by decide) <| Runs.retZ (y := (1 : Int32)) d8_14 rfl ⟨by decide, by decide⟩ rfl ⟨rfl, rfl⟩
  · refine Runs.ifN d8_1 (feq hc1).1 <| ?_
    refine Runs.iloadN d8_4 rfl <| Runs.iconst d8_5 ci_1 <| ?_
    refine ite_el hf (fun hc2 hf => ?_) (fun hc2 hf => ?_)
    · refine Runs.icN d8_6 (teq hc2).2 <| ?_
      obtain rfl := Option.some.inj hf
      exact Runs.iconst d8_9 ci_1 <| Runs.goto (pc' := 14) d8_10 (by decide) <| Runs.retZ (y := (1 : Int32)) d8_14 rfl ⟨by decide, by decide⟩ rfl ⟨rfl, rfl⟩
    · refine Runs.icY (pc' := 13) d8_6 (feq hc2).2 (by decide) <| ?_
      obtain rfl := Option.some.inj hf
      exact Runs.iconst d8_13 ci_0 <| Runs.retZ (y := (0 : Int32)) d8_14 rfl ⟨by decide, by decide⟩ rfl ⟨rfl, rfl⟩
theorem X_validLeg_pay {C : Ctx} {top : Nat} {a : Nat} {H : List (Nat × Nat × Rec)} {ob : Rec} {res : Int32} {i1 : Int32} (hf : X_validLeg ob i1 = some res) : Pays C B8 [.ref a, .int i1] (top, (a, 6, ob) :: H) (Ans (some (.int res)) (top, (a, 6, ob) :: H)) :=
  Pays.of pnK (Nat.le_of_ble_eq_true rfl) (P := [vr a, vi i1]) 0 rfl (X_validLeg_p i1 hf)
def X_failLeg (ob : Rec) (i1 : Int32) : Option (Int32 × Rec) :=
  if (gI ob 4) = (0 : Int32) then
    (X_validLeg ob i1).bind fun r2 =>
    if r2 = (0 : Int32) then
      some ((-2 : Int32), ob)
    else
      chk (2 : Int32) i1 <|
      if (gA ob 2 i1) = (2 : Int32) then
        some ((-4 : Int32), ob)
      else
        chk (2 : Int32) ((1 : Int32) - i1) <|
        if (gA ob 2 ((1 : Int32) - i1)) = (0 : Int32) then
          chk (2 : Int32) i1 <|
          some ((0 : Int32), (sA ob 2 i1 (2 : Int32)))
        else
          some ((-4 : Int32), ob)
  else
    some ((-1 : Int32), ob)
set_option maxRecDepth 65536 in
set_option maxHeartbeats 4000000 in
theorem X_failLeg_p {C : Ctx} {top : Nat} {a : Nat} {H : List (Nat × Nat × Rec)} {res : Int32 × Rec} (ob : Rec) (i1 : Int32) (hf : X_failLeg ob i1 = some res) : Runs C B6 0 0 0 [vr a, vi i1] [] (top, (a, 6, ob) :: H) (Ans (some (.int res.1)) (top, (a, 6, res.2) :: H)) := by
  delta X_failLeg at hf
  refine Runs.aloadN d6_0 rfl <| Runs.getI d6_1 w34 fS_4 <| ?_
  refine ite_el hf (fun hc1 hf => ?_) (fun hc1 hf => ?_)
  · refine Runs.ifY (pc' := 9) d6_4 (teq hc1).1 (by decide) <| ?_
    refine Runs.aloadN d6_9 rfl <| Runs.iloadN d6_10 rfl <| ?_
    refine bind_el hf fun r2 hg3 hf => ?_
    refine Runs.callP (N := B8) (W := 0) (as := [.int i1]) (S' := []) d6_11 w68 w69 w70 rfl cw8 ar8 rk6_8_0 (by decide) rfl rfl (X_validLeg_pay hg3) <| ans1 <| ?_
    refine ite_el hf (fun hc4 hf => ?_) (fun hc4 hf => ?_)
    · refine Runs.ifN d6_14 (teq hc4).2 <| ?_
      obtain rfl := Option.some.inj hf
      exact Runs.bipush d6_17 cb_m2 <| Runs.retI d6_19 rfl ⟨by decide, by decide⟩ ⟨rfl, rfl⟩
    · refine Runs.ifY (pc' := 20) d6_14 (feq hc4).2 (by decide) <| ?_
      refine Runs.aloadN d6_20 rfl <| Runs.getA d6_21 fA_2 w14 (by decide) <| Runs.iloadN d6_24 rfl <| ?_
      refine chk_el hf fun hi5 hf => ?_
      refine Runs.ialoadA d6_25 fA_2 (by decide) hi5 <| Runs.iconst d6_26 ci_2 <| ?_
      refine ite_el hf (fun hc6 hf => ?_) (fun hc6 hf => ?_)
      · refine Runs.icN d6_27 (teq hc6).2 <| ?_
        obtain rfl := Option.some.inj hf
        exact Runs.bipush d6_30 cb_m4 <| Runs.retI d6_32 rfl ⟨by decide, by decide⟩ ⟨rfl, rfl⟩
      · refine Runs.icY (pc' := 33) d6_27 (feq hc6).2 (by decide) <| ?_
        refine Runs.aloadN d6_33 rfl <| Runs.getA d6_34 fA_2 w14 (by decide) <| Runs.iconst d6_37 ci_1 <| Runs.iloadN d6_38 rfl <| Runs.isub d6_39 <| ?_
        refine chk_el hf fun hi7 hf => ?_
        refine Runs.ialoadA d6_40 fA_2 (by decide) hi7 <| ?_
        refine ite_el hf (fun hc8 hf => ?_) (fun hc8 hf => ?_)
        · refine Runs.ifY (pc' := 47) d6_41 (teq hc8).1 (by decide) <| ?_
          refine Runs.aloadN d6_47 rfl <| Runs.getA d6_48 fA_2 w14 (by decide) <| Runs.iloadN d6_51 rfl <| Runs.iconst d6_52 ci_2 <| ?_
          refine chk_el hf fun hi9 hf => ?_
          obtain rfl := Option.some.inj hf
          exact Runs.iastoreA d6_53 fA_2 (by decide) hi9 <| Runs.iconst d6_54 ci_0 <| Runs.retI d6_55 rfl ⟨by decide, by decide⟩ ⟨rfl, rfl⟩
        · refine Runs.ifN d6_41 (feq hc8).1 <| ?_
          obtain rfl := Option.some.inj hf
          exact Runs.bipush d6_44 cb_m4 <| Runs.retI d6_46 rfl ⟨by decide, by decide⟩ ⟨rfl, rfl⟩
  · refine Runs.ifN d6_4 (feq hc1).1 <| ?_
    obtain rfl := Option.some.inj hf
    exact Runs.iconst d6_7 ci_m1 <| Runs.retI d6_8 rfl ⟨by decide, by decide⟩ ⟨rfl, rfl⟩
theorem X_failLeg_pay {C : Ctx} {top : Nat} {a : Nat} {H : List (Nat × Nat × Rec)} {res : Int32 × Rec} {ob : Rec} {i1 : Int32} (hf : X_failLeg ob i1 = some res) : Pays C B6 [.ref a, .int i1] (top, (a, 6, ob) :: H) (Ans (some (.int res.1)) (top, (a, 6, res.2) :: H)) :=
  Pays.of pnK (Nat.le_of_ble_eq_true rfl) (P := [vr a, vi i1]) 0 rfl (X_failLeg_p ob i1 hf)
def X_checkDetached (ob : Rec) (i1 : Int32) : Option (Int32) :=
  if (gI ob 4) = (0 : Int32) then
    (X_validLeg ob i1).bind fun r2 =>
    if r2 = (0 : Int32) then
      some (-2 : Int32)
    else
      if (gI ob 5) = (0 : Int32) then
        chk (2 : Int32) i1 <|
        if (gA ob 2 i1) = (2 : Int32) then
          some (0 : Int32)
        else
          some (-4 : Int32)
      else
        some (-3 : Int32)
  else
    some (-1 : Int32)
set_option maxRecDepth 65536 in
set_option maxHeartbeats 4000000 in
theorem X_checkDetached_p {C : Ctx} {top : Nat} {a : Nat} {H : List (Nat × Nat × Rec)} {ob : Rec} {res : Int32} (i1 : Int32) (hf : X_checkDetached ob i1 = some res) : Runs C B24 0 0 0 [vr a, vi i1] [] (top, (a, 6, ob) :: H) (Ans (some (.int res)) (top, (a, 6, ob) :: H)) := by
  delta X_checkDetached at hf
  refine Runs.aloadN d24_0 rfl <| Runs.getI d24_1 w34 fS_4 <| ?_
  refine ite_el hf (fun hc1 hf => ?_) (fun hc1 hf => ?_)
  · refine Runs.ifY (pc' := 9) d24_4 (teq hc1).1 (by decide) <| ?_
    refine Runs.aloadN d24_9 rfl <| Runs.iloadN d24_10 rfl <| ?_
    refine bind_el hf fun r2 hg3 hf => ?_
    refine Runs.callP (N := B8) (W := 0) (as := [.int i1]) (S' := []) d24_11 w68 w69 w70 rfl cw8 ar8 rk24_8_0 (by decide) rfl rfl (X_validLeg_pay hg3) <| ans1 <| ?_
    refine ite_el hf (fun hc4 hf => ?_) (fun hc4 hf => ?_)
    · refine Runs.ifN d24_14 (teq hc4).2 <| ?_
      obtain rfl := Option.some.inj hf
      exact Runs.bipush d24_17 cb_m2 <| Runs.retI d24_19 rfl ⟨by decide, by decide⟩ ⟨rfl, rfl⟩
    · refine Runs.ifY (pc' := 20) d24_14 (feq hc4).2 (by decide) <| ?_
      refine Runs.aloadN d24_20 rfl <| Runs.getI d24_21 w36 fS_5 <| ?_
      refine ite_el hf (fun hc5 hf => ?_) (fun hc5 hf => ?_)
      · refine Runs.ifY (pc' := 30) d24_24 (teq hc5).1 (by decide) <| ?_
        refine Runs.aloadN d24_30 rfl <| Runs.getA d24_31 fA_2 w14 (by decide) <| Runs.iloadN d24_34 rfl <| ?_
        refine chk_el hf fun hi6 hf => ?_
        refine Runs.ialoadA d24_35 fA_2 (by decide) hi6 <| Runs.iconst d24_36 ci_2 <| ?_
        refine ite_el hf (fun hc7 hf => ?_) (fun hc7 hf => ?_)
        · refine Runs.icY (pc' := 43) d24_37 (teq hc7).1 (by decide) <| ?_
          obtain rfl := Option.some.inj hf
          exact Runs.iconst d24_43 ci_0 <| Runs.retI d24_44 rfl ⟨by decide, by decide⟩ ⟨rfl, rfl⟩
        · refine Runs.icN d24_37 (feq hc7).1 <| ?_
          obtain rfl := Option.some.inj hf
          exact Runs.bipush d24_40 cb_m4 <| Runs.retI d24_42 rfl ⟨by decide, by decide⟩ ⟨rfl, rfl⟩
      · refine Runs.ifN d24_24 (feq hc5).1 <| ?_
        obtain rfl := Option.some.inj hf
        exact Runs.bipush d24_27 cb_m3 <| Runs.retI d24_29 rfl ⟨by decide, by decide⟩ ⟨rfl, rfl⟩
  · refine Runs.ifN d24_4 (feq hc1).1 <| ?_
    obtain rfl := Option.some.inj hf
    exact Runs.iconst d24_7 ci_m1 <| Runs.retI d24_8 rfl ⟨by decide, by decide⟩ ⟨rfl, rfl⟩
theorem X_checkDetached_pay {C : Ctx} {top : Nat} {a : Nat} {H : List (Nat × Nat × Rec)} {ob : Rec} {res : Int32} {i1 : Int32} (hf : X_checkDetached ob i1 = some res) : Pays C B24 [.ref a, .int i1] (top, (a, 6, ob) :: H) (Ans (some (.int res)) (top, (a, 6, ob) :: H)) :=
  Pays.of pnK (Nat.le_of_ble_eq_true rfl) (P := [vr a, vi i1]) 0 rfl (X_checkDetached_p i1 hf)
def X_reattachLeg (ob : Rec) (i1 : Int32) : Option (Int32 × Rec) :=
  (X_checkDetached ob i1).bind fun r1 =>
  if r1 = (0 : Int32) then
    chk (2 : Int32) i1 <|
    some ((0 : Int32), (sA ob 2 i1 (1 : Int32)))
  else
    some (r1, ob)
set_option maxRecDepth 65536 in
set_option maxHeartbeats 4000000 in
theorem X_reattachLeg_p {C : Ctx} {top : Nat} {a : Nat} {H : List (Nat × Nat × Rec)} {res : Int32 × Rec} (ob : Rec) (i1 : Int32) (hf : X_reattachLeg ob i1 = some res) : Runs C B23 0 0 0 [vr a, vi i1, vn] [] (top, (a, 6, ob) :: H) (Ans (some (.int res.1)) (top, (a, 6, res.2) :: H)) := by
  delta X_reattachLeg at hf
  refine Runs.aloadN d23_0 rfl <| Runs.iloadN d23_1 rfl <| ?_
  refine bind_el hf fun r1 hg2 hf => ?_
  refine Runs.callP (N := B24) (W := 0) (as := [.int i1]) (S' := []) d23_2 w141 w142 w143 rfl cw24 ar24 rk23_24_0 (by decide) rfl rfl (X_checkDetached_pay hg2) <| ans1 <| Runs.istoreN (P' := [vr a, vi i1, vi r1]) d23_5 (by decide) rfl <| Runs.iloadN d23_6 rfl <| ?_
  refine ite_el hf (fun hc3 hf => ?_) (fun hc3 hf => ?_)
  · refine Runs.ifY (pc' := 12) d23_7 (teq hc3).1 (by decide) <| ?_
    refine Runs.aloadN d23_12 rfl <| Runs.getA d23_13 fA_2 w14 (by decide) <| Runs.iloadN d23_16 rfl <| Runs.iconst d23_17 ci_1 <| ?_
    refine chk_el hf fun hi4 hf => ?_
    obtain rfl := Option.some.inj hf
    exact Runs.iastoreA d23_18 fA_2 (by decide) hi4 <| Runs.iconst d23_19 ci_0 <| Runs.retI d23_20 rfl ⟨by decide, by decide⟩ ⟨rfl, rfl⟩
  · refine Runs.ifN d23_7 (feq hc3).1 <| ?_
    obtain rfl := Option.some.inj hf
    exact Runs.iloadN d23_10 rfl <| Runs.retI d23_11 rfl ⟨by decide, by decide⟩ ⟨rfl, rfl⟩
theorem X_reattachLeg_pay {C : Ctx} {top : Nat} {a : Nat} {H : List (Nat × Nat × Rec)} {res : Int32 × Rec} {ob : Rec} {i1 : Int32} (hf : X_reattachLeg ob i1 = some res) : Pays C B23 [.ref a, .int i1] (top, (a, 6, ob) :: H) (Ans (some (.int res.1)) (top, (a, 6, res.2) :: H)) :=
  Pays.of pnK (Nat.le_of_ble_eq_true rfl) (P := [vr a, vi i1, vn]) 1 rfl (X_reattachLeg_p ob i1 hf)
def X_zeroLeg_w7 (NF : Nat) (k7 : Rec → Int32 → Int32 → Option (Rec)) (ob : Rec) (i2 : Int32) (i3 : Int32) : Option (Rec) :=
  if i3 < (gI ob 0) then
    chk (64 : Int32) (i2 + i3) <|
    k7 (sA ob 0 (i2 + i3) (0 : Int32)) i2 (i3 + (1 : Int32))
  else
    some ob
def X_zeroLeg_l7 (NF : Nat) : Nat → Rec → Int32 → Int32 → Option (Rec)
  | 0, _, _, _ => none
  | n + 1, ob, i2, i3 => X_zeroLeg_w7 NF (X_zeroLeg_l7 NF n) ob i2 i3
set_option maxRecDepth 65536 in
set_option maxHeartbeats 4000000 in
theorem X_zeroLeg_w7_p {C : Ctx} {top : Nat} {a : Nat} {H : List (Nat × Nat × Rec)} {res : Rec} {NF : Nat} (k7 : Rec → Int32 → Int32 → Option (Rec)) (hk7 : ∀ (ob : Rec) (i2 : Int32) (i3 : Int32), k7 ob i2 i3 = some res → Runs C B31 0 0 7 [vr a, vn, vi i2, vi i3] [] (top, (a, 6, ob) :: H) (Ans none (top, (a, 6, res) :: H))) (ob : Rec) (i2 : Int32) (i3 : Int32) (hf : X_zeroLeg_w7 NF k7 ob i2 i3 = some res) : Runs C B31 0 0 7 [vr a, vn, vi i2, vi i3] [] (top, (a, 6, ob) :: H) (Ans none (top, (a, 6, res) :: H)) := by
  delta X_zeroLeg_w7 at hf
  refine Runs.iloadN d31_7 rfl <| Runs.aloadN d31_8 rfl <| Runs.getI d31_9 w26 fS_0 <| ?_
  refine ite_el hf (fun hc1 hf => ?_) (fun hc1 hf => ?_)
  · refine Runs.icN d31_12 (tlt hc1).2.1 <| ?_
    refine Runs.aloadN d31_15 rfl <| Runs.getA d31_16 fA_0 w10 (by decide) <| Runs.iloadN d31_19 rfl <| Runs.iloadN d31_20 rfl <| Runs.iadd d31_21 <| Runs.iconst d31_22 ci_0 <| ?_
    refine chk_el hf fun hi2 hf => ?_
    exact Runs.iastoreA d31_23 fA_0 (by decide) hi2 <| Runs.iinc (P' := [vr a, vn, vi i2, vi (i3 + (1 : Int32))]) d31_24 ci_1 rfl (by decide) rfl <| Runs.goto (pc' := 7) d31_27 (by decide) <| hk7 (sA ob 0 (i2 + i3) (0 : Int32)) i2 (i3 + (1 : Int32)) hf
  · refine Runs.icY (pc' := 30) d31_12 (flt hc1).2.1 (by decide) <| ?_
    obtain rfl := Option.some.inj hf
    exact Runs.retV d31_30 rfl ⟨by decide, by decide⟩ ⟨rfl, rfl⟩
theorem X_zeroLeg_l7_p {C : Ctx} {top : Nat} {a : Nat} {H : List (Nat × Nat × Rec)} {res : Rec} {NF : Nat} (n : Nat) (ob : Rec) (i2 : Int32) (i3 : Int32) (hf : X_zeroLeg_l7 NF n ob i2 i3 = some res) : Runs C B31 0 0 7 [vr a, vn, vi i2, vi i3] [] (top, (a, 6, ob) :: H) (Ans none (top, (a, 6, res) :: H)) := by
  induction n generalizing ob i2 i3 with
  | zero => cases (show (none : Option (Rec)) = some res from hf)
  | succ n ih => exact X_zeroLeg_w7_p (X_zeroLeg_l7 NF n) (fun ob i2 i3 h => ih _ _ _ h) ob i2 i3 hf
def X_zeroLeg (NF : Nat) (ob : Rec) (i1 : Int32) : Option (Rec) :=
  X_zeroLeg_l7 NF NF ob (i1 * (32 : Int32)) (0 : Int32)
set_option maxRecDepth 65536 in
set_option maxHeartbeats 4000000 in
theorem X_zeroLeg_p {C : Ctx} {top : Nat} {a : Nat} {H : List (Nat × Nat × Rec)} {res : Rec} {NF : Nat} (ob : Rec) (i1 : Int32) (hf : X_zeroLeg NF ob i1 = some res) : Runs C B31 0 0 0 [vr a, vi i1, vn, vn] [] (top, (a, 6, ob) :: H) (Ans none (top, (a, 6, res) :: H)) := by
  delta X_zeroLeg at hf
  exact Runs.iloadN d31_0 rfl <| Runs.bipush d31_1 cb_32 <| Runs.imul d31_3 <| Runs.istoreN (P' := [vr a, vi i1, vi (i1 * (32 : Int32)), vn]) d31_4 (by decide) rfl <| Runs.iconst d31_5 ci_0 <| Runs.istoreN (P' := [vr a, vi i1, vi (i1 * (32 : Int32)), vi (0 : Int32)]) d31_6 (by decide) rfl <| Runs.forget [true, false, true, true] rfl <| X_zeroLeg_l7_p NF ob (i1 * (32 : Int32)) (0 : Int32) hf
theorem X_zeroLeg_pay {C : Ctx} {top : Nat} {a : Nat} {H : List (Nat × Nat × Rec)} {res : Rec} {NF : Nat} {ob : Rec} {i1 : Int32} (hf : X_zeroLeg NF ob i1 = some res) : Pays C B31 [.ref a, .int i1] (top, (a, 6, ob) :: H) (Ans none (top, (a, 6, res) :: H)) :=
  Pays.of pnK (Nat.le_of_ble_eq_true rfl) (P := [vr a, vi i1, vn, vn]) 2 rfl (X_zeroLeg_p ob i1 hf)
def X_markAllDirty_w2 (NF : Nat) (k2 : Rec → Int32 → Option (Rec)) (ob : Rec) (i1 : Int32) : Option (Rec) :=
  if i1 < (gI ob 3) then
    (X_markDirty ob i1).bind fun q2 =>
    k2 q2 (i1 + (1 : Int32))
  else
    some ob
def X_markAllDirty_l2 (NF : Nat) : Nat → Rec → Int32 → Option (Rec)
  | 0, _, _ => none
  | n + 1, ob, i1 => X_markAllDirty_w2 NF (X_markAllDirty_l2 NF n) ob i1
set_option maxRecDepth 65536 in
set_option maxHeartbeats 4000000 in
theorem X_markAllDirty_w2_p {C : Ctx} {top : Nat} {a : Nat} {H : List (Nat × Nat × Rec)} {res : Rec} {NF : Nat} (k2 : Rec → Int32 → Option (Rec)) (hk2 : ∀ (ob : Rec) (i1 : Int32), k2 ob i1 = some res → Runs C B32 0 0 2 [vr a, vi i1] [] (top, (a, 6, ob) :: H) (Ans none (top, (a, 6, res) :: H))) (ob : Rec) (i1 : Int32) (hf : X_markAllDirty_w2 NF k2 ob i1 = some res) : Runs C B32 0 0 2 [vr a, vi i1] [] (top, (a, 6, ob) :: H) (Ans none (top, (a, 6, res) :: H)) := by
  delta X_markAllDirty_w2 at hf
  refine Runs.iloadN d32_2 rfl <| Runs.aloadN d32_3 rfl <| Runs.getI d32_4 w32 fS_3 <| ?_
  refine ite_el hf (fun hc1 hf => ?_) (fun hc1 hf => ?_)
  · refine Runs.icN d32_7 (tlt hc1).2.1 <| ?_
    refine Runs.aloadN d32_10 rfl <| Runs.iloadN d32_11 rfl <| ?_
    refine bind_el hf fun q2 hg3 hf => ?_
    exact Runs.callP (N := B10) (W := 0) (as := [.int i1]) (S' := []) d32_12 w77 w78 w79 rfl cw10 ar10 rk32_10_0 (by decide) rfl rfl (X_markDirty_pay hg3) <| ans0 <| Runs.iinc (P' := [vr a, vi (i1 + (1 : Int32))]) d32_15 ci_1 rfl (by decide) rfl <| Runs.goto (pc' := 2) d32_18 (by decide) <| hk2 q2 (i1 + (1 : Int32)) hf
  · refine Runs.icY (pc' := 21) d32_7 (flt hc1).2.1 (by decide) <| ?_
    obtain rfl := Option.some.inj hf
    exact Runs.retV d32_21 rfl ⟨by decide, by decide⟩ ⟨rfl, rfl⟩
theorem X_markAllDirty_l2_p {C : Ctx} {top : Nat} {a : Nat} {H : List (Nat × Nat × Rec)} {res : Rec} {NF : Nat} (n : Nat) (ob : Rec) (i1 : Int32) (hf : X_markAllDirty_l2 NF n ob i1 = some res) : Runs C B32 0 0 2 [vr a, vi i1] [] (top, (a, 6, ob) :: H) (Ans none (top, (a, 6, res) :: H)) := by
  induction n generalizing ob i1 with
  | zero => cases (show (none : Option (Rec)) = some res from hf)
  | succ n ih => exact X_markAllDirty_w2_p (X_markAllDirty_l2 NF n) (fun ob i1 h => ih _ _ h) ob i1 hf
def X_markAllDirty (NF : Nat) (ob : Rec) : Option (Rec) :=
  X_markAllDirty_l2 NF NF ob (0 : Int32)
set_option maxRecDepth 65536 in
set_option maxHeartbeats 4000000 in
theorem X_markAllDirty_p {C : Ctx} {top : Nat} {a : Nat} {H : List (Nat × Nat × Rec)} {res : Rec} {NF : Nat} (ob : Rec) (hf : X_markAllDirty NF ob = some res) : Runs C B32 0 0 0 [vr a, vn] [] (top, (a, 6, ob) :: H) (Ans none (top, (a, 6, res) :: H)) := by
  delta X_markAllDirty at hf
  exact Runs.iconst d32_0 ci_0 <| Runs.istoreN (P' := [vr a, vi (0 : Int32)]) d32_1 (by decide) rfl <| X_markAllDirty_l2_p NF ob (0 : Int32) hf
theorem X_markAllDirty_pay {C : Ctx} {top : Nat} {a : Nat} {H : List (Nat × Nat × Rec)} {res : Rec} {NF : Nat} {ob : Rec} (hf : X_markAllDirty NF ob = some res) : Pays C B32 [.ref a] (top, (a, 6, ob) :: H) (Ans none (top, (a, 6, res) :: H)) :=
  Pays.of pnK (Nat.le_of_ble_eq_true rfl) (P := [vr a, vn]) 1 rfl (X_markAllDirty_p ob hf)
def X_replaceLeg (NF : Nat) (ob : Rec) (i1 : Int32) : Option (Int32 × Rec) :=
  (X_checkDetached ob i1).bind fun r1 =>
  if r1 = (0 : Int32) then
    (X_zeroLeg NF ob i1).bind fun q4 =>
    (X_markAllDirty NF q4).bind fun q6 =>
    chk (2 : Int32) i1 <|
    some ((0 : Int32), (sA q6 2 i1 (1 : Int32)))
  else
    some (r1, ob)
set_option maxRecDepth 65536 in
set_option maxHeartbeats 4000000 in
theorem X_replaceLeg_p {C : Ctx} {top : Nat} {a : Nat} {H : List (Nat × Nat × Rec)} {res : Int32 × Rec} {NF : Nat} (ob : Rec) (i1 : Int32) (hf : X_replaceLeg NF ob i1 = some res) : Runs C B28 0 0 0 [vr a, vi i1, vn] [] (top, (a, 6, ob) :: H) (Ans (some (.int res.1)) (top, (a, 6, res.2) :: H)) := by
  delta X_replaceLeg at hf
  refine Runs.aloadN d28_0 rfl <| Runs.iloadN d28_1 rfl <| ?_
  refine bind_el hf fun r1 hg2 hf => ?_
  refine Runs.callP (N := B24) (W := 0) (as := [.int i1]) (S' := []) d28_2 w141 w142 w143 rfl cw24 ar24 rk28_24_0 (by decide) rfl rfl (X_checkDetached_pay hg2) <| ans1 <| Runs.istoreN (P' := [vr a, vi i1, vi r1]) d28_5 (by decide) rfl <| Runs.iloadN d28_6 rfl <| ?_
  refine ite_el hf (fun hc3 hf => ?_) (fun hc3 hf => ?_)
  · refine Runs.ifY (pc' := 12) d28_7 (teq hc3).1 (by decide) <| ?_
    refine Runs.aloadN d28_12 rfl <| Runs.iloadN d28_13 rfl <| ?_
    refine bind_el hf fun q4 hg5 hf => ?_
    refine Runs.callP (N := B31) (W := 0) (as := [.int i1]) (S' := []) d28_14 w170 w171 w172 rfl cw31 ar31 rk28_31_0 (by decide) rfl rfl (X_zeroLeg_pay hg5) <| ans0 <| Runs.aloadN d28_17 rfl <| ?_
    refine bind_el hf fun q6 hg7 hf => ?_
    refine Runs.callP (N := B32) (W := 0) (as := []) (S' := []) d28_18 w174 w175 w176 rfl cw32 ar32 rk28_32_0 (by decide) rfl rfl (X_markAllDirty_pay hg7) <| ans0 <| Runs.aloadN d28_21 rfl <| Runs.getA d28_22 fA_2 w14 (by decide) <| Runs.iloadN d28_25 rfl <| Runs.iconst d28_26 ci_1 <| ?_
    refine chk_el hf fun hi8 hf => ?_
    obtain rfl := Option.some.inj hf
    exact Runs.iastoreA d28_27 fA_2 (by decide) hi8 <| Runs.iconst d28_28 ci_0 <| Runs.retI d28_29 rfl ⟨by decide, by decide⟩ ⟨rfl, rfl⟩
  · refine Runs.ifN d28_7 (feq hc3).1 <| ?_
    obtain rfl := Option.some.inj hf
    exact Runs.iloadN d28_10 rfl <| Runs.retI d28_11 rfl ⟨by decide, by decide⟩ ⟨rfl, rfl⟩
theorem X_replaceLeg_pay {C : Ctx} {top : Nat} {a : Nat} {H : List (Nat × Nat × Rec)} {res : Int32 × Rec} {NF : Nat} {ob : Rec} {i1 : Int32} (hf : X_replaceLeg NF ob i1 = some res) : Pays C B28 [.ref a, .int i1] (top, (a, 6, ob) :: H) (Ans (some (.int res.1)) (top, (a, 6, res.2) :: H)) :=
  Pays.of pnK (Nat.le_of_ble_eq_true rfl) (P := [vr a, vi i1, vn]) 1 rfl (X_replaceLeg_p ob i1 hf)
def X_staleLeg (ob : Rec) : Option (Int32) :=
  chk (2 : Int32) (0 : Int32) <|
  if (gA ob 2 (0 : Int32)) = (1 : Int32) then
    some (0 : Int32)
  else
    chk (2 : Int32) (1 : Int32) <|
    if (gA ob 2 (1 : Int32)) = (1 : Int32) then
      some (1 : Int32)
    else
      some (-1 : Int32)
set_option maxRecDepth 65536 in
set_option maxHeartbeats 4000000 in
theorem X_staleLeg_p {C : Ctx} {top : Nat} {a : Nat} {H : List (Nat × Nat × Rec)} {ob : Rec} {res : Int32} (hf : X_staleLeg ob = some res) : Runs C B19 0 0 0 [vr a] [] (top, (a, 6, ob) :: H) (Ans (some (.int res)) (top, (a, 6, ob) :: H)) := by
  delta X_staleLeg at hf
  refine Runs.aloadN d19_0 rfl <| Runs.getA d19_1 fA_2 w14 (by decide) <| Runs.iconst d19_4 ci_0 <| ?_
  refine chk_el hf fun hi1 hf => ?_
  refine Runs.ialoadA d19_5 fA_2 (by decide) hi1 <| Runs.iconst d19_6 ci_1 <| ?_
  refine ite_el hf (fun hc2 hf => ?_) (fun hc2 hf => ?_)
  · refine Runs.icN d19_7 (teq hc2).2 <| ?_
    obtain rfl := Option.some.inj hf
    exact Runs.iconst d19_10 ci_0 <| Runs.retI d19_11 rfl ⟨by decide, by decide⟩ ⟨rfl, rfl⟩
  · refine Runs.icY (pc' := 12) d19_7 (feq hc2).2 (by decide) <| ?_
    refine Runs.aloadN d19_12 rfl <| Runs.getA d19_13 fA_2 w14 (by decide) <| Runs.iconst d19_16 ci_1 <| ?_
    refine chk_el hf fun hi3 hf => ?_
    refine Runs.ialoadA d19_17 fA_2 (by decide) hi3 <| Runs.iconst d19_18 ci_1 <| ?_
    refine ite_el hf (fun hc4 hf => ?_) (fun hc4 hf => ?_)
    · refine Runs.icN d19_19 (teq hc4).2 <| ?_
      obtain rfl := Option.some.inj hf
      exact Runs.iconst d19_22 ci_1 <| Runs.retI d19_23 rfl ⟨by decide, by decide⟩ ⟨rfl, rfl⟩
    · refine Runs.icY (pc' := 24) d19_19 (feq hc4).2 (by decide) <| ?_
      obtain rfl := Option.some.inj hf
      exact Runs.iconst d19_24 ci_m1 <| Runs.retI d19_25 rfl ⟨by decide, by decide⟩ ⟨rfl, rfl⟩
theorem X_staleLeg_pay {C : Ctx} {top : Nat} {a : Nat} {H : List (Nat × Nat × Rec)} {ob : Rec} {res : Int32} (hf : X_staleLeg ob = some res) : Pays C B19 [.ref a] (top, (a, 6, ob) :: H) (Ans (some (.int res)) (top, (a, 6, ob) :: H)) :=
  Pays.of pnK (Nat.le_of_ble_eq_true rfl) (P := [vr a]) 0 rfl (X_staleLeg_p hf)
def X_copyDirtyRegions_w73 (NF : Nat) (k14 : Rec → Int32 → Int32 → Int32 → Option (Rec)) (k73 : Rec → Int32 → Int32 → Int32 → Int32 → Int32 → Option (Rec)) (ob : Rec) (i3 : Int32) (i4 : Int32) (i5 : Int32) (i7 : Int32) (i8 : Int32) : Option (Rec) :=
  if i8 < i7 then
    chk (64 : Int32) (i3 + i8) <|
    chk (64 : Int32) (i4 + i8) <|
    k73 (sA ob 0 (i4 + i8) (gA ob 0 (i3 + i8))) i3 i4 i5 i7 (i8 + (1 : Int32))
  else
    k14 ob i3 i4 (i5 + (1 : Int32))
def X_copyDirtyRegions_l73 (NF : Nat) (k14 : Rec → Int32 → Int32 → Int32 → Option (Rec)) : Nat → Rec → Int32 → Int32 → Int32 → Int32 → Int32 → Option (Rec)
  | 0, _, _, _, _, _, _ => none
  | n + 1, ob, i3, i4, i5, i7, i8 => X_copyDirtyRegions_w73 NF k14 (X_copyDirtyRegions_l73 NF k14 n) ob i3 i4 i5 i7 i8
set_option maxRecDepth 65536 in
set_option maxHeartbeats 4000000 in
theorem X_copyDirtyRegions_w73_p {C : Ctx} {top : Nat} {a : Nat} {H : List (Nat × Nat × Rec)} {res : Rec} {NF : Nat} (k14 : Rec → Int32 → Int32 → Int32 → Option (Rec)) (hk14 : ∀ (ob : Rec) (i3 : Int32) (i4 : Int32) (i5 : Int32), k14 ob i3 i4 i5 = some res → Runs C B29 0 0 14 [vr a, vn, vn, vi i3, vi i4, vi i5, vn, vn, vn] [] (top, (a, 6, ob) :: H) (Ans none (top, (a, 6, res) :: H))) (k73 : Rec → Int32 → Int32 → Int32 → Int32 → Int32 → Option (Rec)) (hk73 : ∀ (ob : Rec) (i3 : Int32) (i4 : Int32) (i5 : Int32) (i7 : Int32) (i8 : Int32), k73 ob i3 i4 i5 i7 i8 = some res → Runs C B29 0 0 73 [vr a, vn, vn, vi i3, vi i4, vi i5, vn, vi i7, vi i8] [] (top, (a, 6, ob) :: H) (Ans none (top, (a, 6, res) :: H))) (ob : Rec) (i3 : Int32) (i4 : Int32) (i5 : Int32) (i7 : Int32) (i8 : Int32) (hf : X_copyDirtyRegions_w73 NF k14 k73 ob i3 i4 i5 i7 i8 = some res) : Runs C B29 0 0 73 [vr a, vn, vn, vi i3, vi i4, vi i5, vn, vi i7, vi i8] [] (top, (a, 6, ob) :: H) (Ans none (top, (a, 6, res) :: H)) := by
  delta X_copyDirtyRegions_w73 at hf
  refine Runs.iload d29_73 rfl <| Runs.iload d29_75 rfl <| ?_
  refine ite_el hf (fun hc5 hf => ?_) (fun hc5 hf => ?_)
  · refine Runs.icN d29_77 (tlt hc5).2.1 <| ?_
    refine Runs.aloadN d29_80 rfl <| Runs.getA d29_81 fA_0 w10 (by decide) <| Runs.iload d29_84 rfl <| Runs.iload d29_86 rfl <| Runs.iadd d29_88 <| Runs.aloadN d29_89 rfl <| Runs.getA d29_90 fA_0 w10 (by decide) <| Runs.iloadN d29_93 rfl <| Runs.iload d29_94 rfl <| Runs.iadd d29_96 <| ?_
    refine chk_el hf fun hi6 hf => ?_
    refine Runs.ialoadA d29_97 fA_0 (by decide) hi6 <| ?_
    refine chk_el hf fun hi7 hf => ?_
    exact Runs.iastoreA d29_98 fA_0 (by decide) hi7 <| Runs.iinc (P' := [vr a, vn, vn, vi i3, vi i4, vi i5, vn, vi i7, vi (i8 + (1 : Int32))]) d29_99 ci_1 rfl (by decide) rfl <| Runs.goto (pc' := 73) d29_102 (by decide) <| hk73 (sA ob 0 (i4 + i8) (gA ob 0 (i3 + i8))) i3 i4 i5 i7 (i8 + (1 : Int32)) hf
  · refine Runs.icY (pc' := 105) d29_77 (flt hc5).2.1 (by decide) <| ?_
    exact Runs.iinc (P' := [vr a, vn, vn, vi i3, vi i4, vi (i5 + (1 : Int32)), vn, vi i7, vi i8]) d29_105 ci_1 rfl (by decide) rfl <| Runs.goto (pc' := 14) d29_108 (by decide) <| Runs.forget [true, false, false, true, true, true, false, false, false] rfl <| hk14 ob i3 i4 (i5 + (1 : Int32)) hf
theorem X_copyDirtyRegions_l73_p {C : Ctx} {top : Nat} {a : Nat} {H : List (Nat × Nat × Rec)} {res : Rec} {NF : Nat} (k14 : Rec → Int32 → Int32 → Int32 → Option (Rec)) (hk14 : ∀ (ob : Rec) (i3 : Int32) (i4 : Int32) (i5 : Int32), k14 ob i3 i4 i5 = some res → Runs C B29 0 0 14 [vr a, vn, vn, vi i3, vi i4, vi i5, vn, vn, vn] [] (top, (a, 6, ob) :: H) (Ans none (top, (a, 6, res) :: H))) (n : Nat) (ob : Rec) (i3 : Int32) (i4 : Int32) (i5 : Int32) (i7 : Int32) (i8 : Int32) (hf : X_copyDirtyRegions_l73 NF k14 n ob i3 i4 i5 i7 i8 = some res) : Runs C B29 0 0 73 [vr a, vn, vn, vi i3, vi i4, vi i5, vn, vi i7, vi i8] [] (top, (a, 6, ob) :: H) (Ans none (top, (a, 6, res) :: H)) := by
  induction n generalizing ob i3 i4 i5 i7 i8 with
  | zero => cases (show (none : Option (Rec)) = some res from hf)
  | succ n ih => exact X_copyDirtyRegions_w73_p k14 hk14 (X_copyDirtyRegions_l73 NF k14 n) (fun ob i3 i4 i5 i7 i8 h => ih _ _ _ _ _ _ h) ob i3 i4 i5 i7 i8 hf
def X_copyDirtyRegions_w14 (NF : Nat) (k14 : Rec → Int32 → Int32 → Int32 → Option (Rec)) (ob : Rec) (i3 : Int32) (i4 : Int32) (i5 : Int32) : Option (Rec) :=
  if i5 < (gI ob 3) then
    chk (32 : Int32) i5 <|
    if (gA ob 3 i5) = (0 : Int32) then
      k14 ob i3 i4 (i5 + (1 : Int32))
    else
      if (gI ob 0) < ((i5 * (gI ob 1)) + (gI ob 1)) then
        X_copyDirtyRegions_l73 NF k14 NF ob i3 i4 i5 (gI ob 0) (i5 * (gI ob 1))
      else
        X_copyDirtyRegions_l73 NF k14 NF ob i3 i4 i5 ((i5 * (gI ob 1)) + (gI ob 1)) (i5 * (gI ob 1))
  else
    some ob
def X_copyDirtyRegions_l14 (NF : Nat) : Nat → Rec → Int32 → Int32 → Int32 → Option (Rec)
  | 0, _, _, _, _ => none
  | n + 1, ob, i3, i4, i5 => X_copyDirtyRegions_w14 NF (X_copyDirtyRegions_l14 NF n) ob i3 i4 i5
set_option maxRecDepth 65536 in
set_option maxHeartbeats 4000000 in
theorem X_copyDirtyRegions_w14_p {C : Ctx} {top : Nat} {a : Nat} {H : List (Nat × Nat × Rec)} {res : Rec} {NF : Nat} (k14 : Rec → Int32 → Int32 → Int32 → Option (Rec)) (hk14 : ∀ (ob : Rec) (i3 : Int32) (i4 : Int32) (i5 : Int32), k14 ob i3 i4 i5 = some res → Runs C B29 0 0 14 [vr a, vn, vn, vi i3, vi i4, vi i5, vn, vn, vn] [] (top, (a, 6, ob) :: H) (Ans none (top, (a, 6, res) :: H))) (ob : Rec) (i3 : Int32) (i4 : Int32) (i5 : Int32) (hf : X_copyDirtyRegions_w14 NF k14 ob i3 i4 i5 = some res) : Runs C B29 0 0 14 [vr a, vn, vn, vi i3, vi i4, vi i5, vn, vn, vn] [] (top, (a, 6, ob) :: H) (Ans none (top, (a, 6, res) :: H)) := by
  delta X_copyDirtyRegions_w14 at hf
  refine Runs.iload d29_14 rfl <| Runs.aloadN d29_16 rfl <| Runs.getI d29_17 w32 fS_3 <| ?_
  refine ite_el hf (fun hc1 hf => ?_) (fun hc1 hf => ?_)
  · refine Runs.icN d29_20 (tlt hc1).2.1 <| ?_
    refine Runs.aloadN d29_23 rfl <| Runs.getA d29_24 fA_3 w17 (by decide) <| Runs.iload d29_27 rfl <| ?_
    refine chk_el hf fun hi2 hf => ?_
    refine Runs.baloadA d29_29 fA_3 (by decide) hi2 <| ?_
    refine ite_el hf (fun hc3 hf => ?_) (fun hc3 hf => ?_)
    · refine Runs.ifN d29_30 (teq hc3).2 <| ?_
      exact Runs.goto (pc' := 105) d29_33 (by decide) <| Runs.iinc (P' := [vr a, vn, vn, vi i3, vi i4, vi (i5 + (1 : Int32)), vn, vn, vn]) d29_105 ci_1 rfl (by decide) rfl <| Runs.goto (pc' := 14) d29_108 (by decide) <| hk14 ob i3 i4 (i5 + (1 : Int32)) hf
    · refine Runs.ifY (pc' := 36) d29_30 (feq hc3).2 (by decide) <| ?_
      refine Runs.iload d29_36 rfl <| Runs.aloadN d29_38 rfl <| Runs.getI d29_39 w28 fS_1 <| Runs.imul d29_42 <| Runs.istore (P' := [vr a, vn, vn, vi i3, vi i4, vi i5, vi (i5 * (gI ob 1)), vn, vn]) d29_43 (by decide) rfl <| Runs.iload d29_45 rfl <| Runs.aloadN d29_47 rfl <| Runs.getI d29_48 w28 fS_1 <| Runs.iadd d29_51 <| Runs.istore (P' := [vr a, vn, vn, vi i3, vi i4, vi i5, vi (i5 * (gI ob 1)), vi ((i5 * (gI ob 1)) + (gI ob 1)), vn]) d29_52 (by decide) rfl <| Runs.iload d29_54 rfl <| Runs.aloadN d29_56 rfl <| ?_
      refine Runs.getI d29_57 w26 fS_0 <| ?_
      refine ite_el hf (fun hc4 hf => ?_) (fun hc4 hf => ?_)
      · refine Runs.icN d29_60 (tlt hc4).2.2.2 <| ?_
        exact Runs.aloadN d29_63 rfl <| Runs.getI d29_64 w26 fS_0 <| Runs.istore (P' := [vr a, vn, vn, vi i3, vi i4, vi i5, vi (i5 * (gI ob 1)), vi (gI ob 0), vn]) d29_67 (by decide) rfl <| Runs.iload d29_69 rfl <| Runs.istore (P' := [vr a, vn, vn, vi i3, vi i4, vi i5, vi (i5 * (gI ob 1)), vi (gI ob 0), vi (i5 * (gI ob 1))]) d29_71 (by decide) rfl <| Runs.forget [true, false, false, true, true, true, false, true, true] rfl <| X_copyDirtyRegions_l73_p k14 hk14 NF ob i3 i4 i5 (gI ob 0) (i5 * (gI ob 1)) hf
      · refine Runs.icY (pc' := 69) d29_60 (flt hc4).2.2.2 (by decide) <| ?_
        exact Runs.iload d29_69 rfl <| Runs.istore (P' := [vr a, vn, vn, vi i3, vi i4, vi i5, vi (i5 * (gI ob 1)), vi ((i5 * (gI ob 1)) + (gI ob 1)), vi (i5 * (gI ob 1))]) d29_71 (by decide) rfl <| Runs.forget [true, false, false, true, true, true, false, true, true] rfl <| X_copyDirtyRegions_l73_p k14 hk14 NF ob i3 i4 i5 ((i5 * (gI ob 1)) + (gI ob 1)) (i5 * (gI ob 1)) hf
  · refine Runs.icY (pc' := 111) d29_20 (flt hc1).2.1 (by decide) <| ?_
    obtain rfl := Option.some.inj hf
    exact Runs.retV d29_111 rfl ⟨by decide, by decide⟩ ⟨rfl, rfl⟩
theorem X_copyDirtyRegions_l14_p {C : Ctx} {top : Nat} {a : Nat} {H : List (Nat × Nat × Rec)} {res : Rec} {NF : Nat} (n : Nat) (ob : Rec) (i3 : Int32) (i4 : Int32) (i5 : Int32) (hf : X_copyDirtyRegions_l14 NF n ob i3 i4 i5 = some res) : Runs C B29 0 0 14 [vr a, vn, vn, vi i3, vi i4, vi i5, vn, vn, vn] [] (top, (a, 6, ob) :: H) (Ans none (top, (a, 6, res) :: H)) := by
  induction n generalizing ob i3 i4 i5 with
  | zero => cases (show (none : Option (Rec)) = some res from hf)
  | succ n ih => exact X_copyDirtyRegions_w14_p (X_copyDirtyRegions_l14 NF n) (fun ob i3 i4 i5 h => ih _ _ _ _ h) ob i3 i4 i5 hf
def X_copyDirtyRegions (NF : Nat) (ob : Rec) (i1 : Int32) (i2 : Int32) : Option (Rec) :=
  X_copyDirtyRegions_l14 NF NF ob (i1 * (32 : Int32)) (i2 * (32 : Int32)) (0 : Int32)
set_option maxRecDepth 65536 in
set_option maxHeartbeats 4000000 in
theorem X_copyDirtyRegions_p {C : Ctx} {top : Nat} {a : Nat} {H : List (Nat × Nat × Rec)} {res : Rec} {NF : Nat} (ob : Rec) (i1 : Int32) (i2 : Int32) (hf : X_copyDirtyRegions NF ob i1 i2 = some res) : Runs C B29 0 0 0 [vr a, vi i1, vi i2, vn, vn, vn, vn, vn, vn] [] (top, (a, 6, ob) :: H) (Ans none (top, (a, 6, res) :: H)) := by
  delta X_copyDirtyRegions at hf
  exact Runs.iloadN d29_0 rfl <| Runs.bipush d29_1 cb_32 <| Runs.imul d29_3 <| Runs.istoreN (P' := [vr a, vi i1, vi i2, vi (i1 * (32 : Int32)), vn, vn, vn, vn, vn]) d29_4 (by decide) rfl <| Runs.iloadN d29_5 rfl <| Runs.bipush d29_6 cb_32 <| Runs.imul d29_8 <| Runs.istore (P' := [vr a, vi i1, vi i2, vi (i1 * (32 : Int32)), vi (i2 * (32 : Int32)), vn, vn, vn, vn]) d29_9 (by decide) rfl <| Runs.iconst d29_11 ci_0 <| Runs.istore (P' := [vr a, vi i1, vi i2, vi (i1 * (32 : Int32)), vi (i2 * (32 : Int32)), vi (0 : Int32), vn, vn, vn]) d29_12 (by decide) rfl <| Runs.forget [true, false, false, true, true, true, false, false, false] rfl <| X_copyDirtyRegions_l14_p NF ob (i1 * (32 : Int32)) (i2 * (32 : Int32)) (0 : Int32) hf
theorem X_copyDirtyRegions_pay {C : Ctx} {top : Nat} {a : Nat} {H : List (Nat × Nat × Rec)} {res : Rec} {NF : Nat} {ob : Rec} {i1 : Int32} {i2 : Int32} (hf : X_copyDirtyRegions NF ob i1 i2 = some res) : Pays C B29 [.ref a, .int i1, .int i2] (top, (a, 6, ob) :: H) (Ans none (top, (a, 6, res) :: H)) :=
  Pays.of pnK (Nat.le_of_ble_eq_true rfl) (P := [vr a, vi i1, vi i2, vn, vn, vn, vn, vn, vn]) 6 rfl (X_copyDirtyRegions_p ob i1 i2 hf)
def X_clearBitmap_w2 (NF : Nat) (k2 : Rec → Int32 → Option (Rec)) (ob : Rec) (i1 : Int32) : Option (Rec) :=
  if i1 < (32 : Int32) then
    chk (32 : Int32) i1 <|
    chk (32 : Int32) i1 <|
    chk (32 : Int32) i1 <|
    k2 (sA (sA (sA ob 3 i1 (0 : Int32)) 4 i1 (0 : Int32)) 5 i1 (0 : Int32)) (i1 + (1 : Int32))
  else
    some ob
def X_clearBitmap_l2 (NF : Nat) : Nat → Rec → Int32 → Option (Rec)
  | 0, _, _ => none
  | n + 1, ob, i1 => X_clearBitmap_w2 NF (X_clearBitmap_l2 NF n) ob i1
set_option maxRecDepth 65536 in
set_option maxHeartbeats 4000000 in
theorem X_clearBitmap_w2_p {C : Ctx} {top : Nat} {a : Nat} {H : List (Nat × Nat × Rec)} {res : Rec} {NF : Nat} (k2 : Rec → Int32 → Option (Rec)) (hk2 : ∀ (ob : Rec) (i1 : Int32), k2 ob i1 = some res → Runs C B30 0 0 2 [vr a, vi i1] [] (top, (a, 6, ob) :: H) (Ans none (top, (a, 6, res) :: H))) (ob : Rec) (i1 : Int32) (hf : X_clearBitmap_w2 NF k2 ob i1 = some res) : Runs C B30 0 0 2 [vr a, vi i1] [] (top, (a, 6, ob) :: H) (Ans none (top, (a, 6, res) :: H)) := by
  delta X_clearBitmap_w2 at hf
  refine Runs.iloadN d30_2 rfl <| Runs.bipush d30_3 cb_32 <| ?_
  refine ite_el hf (fun hc1 hf => ?_) (fun hc1 hf => ?_)
  · refine Runs.icN d30_5 (tlt hc1).2.1 <| ?_
    refine Runs.aloadN d30_8 rfl <| Runs.getA d30_9 fA_3 w17 (by decide) <| Runs.iloadN d30_12 rfl <| Runs.iconst d30_13 ci_0 <| ?_
    refine chk_el hf fun hi2 hf => ?_
    refine Runs.bastoreA (y := (0 : Int32)) d30_14 fA_3 (by decide) hi2 rfl <| Runs.aloadN d30_15 rfl <| Runs.getA d30_16 fA_4 w19 (by decide) <| Runs.iloadN d30_19 rfl <| Runs.iconst d30_20 ci_0 <| ?_
    refine chk_el hf fun hi3 hf => ?_
    refine Runs.bastoreA (y := (0 : Int32)) d30_21 fA_4 (by decide) hi3 rfl <| Runs.aloadN d30_22 rfl <| Runs.getA d30_23 fA_5 w21 (by decide) <| Runs.iloadN d30_26 rfl <| Runs.iconst d30_27 ci_0 <| ?_
    refine chk_el hf fun hi4 hf => ?_
    exact Runs.iastoreA d30_28 fA_5 (by decide) hi4 <| Runs.iinc (P' := [vr a, vi (i1 + (1 : Int32))]) d30_29 ci_1 rfl (by decide) rfl <| Runs.goto (pc' := 2) d30_32 (by decide) <| hk2 (sA (sA (sA ob 3 i1 (0 : Int32)) 4 i1 (0 : Int32)) 5 i1 (0 : Int32)) (i1 + (1 : Int32)) hf
  · refine Runs.icY (pc' := 35) d30_5 (flt hc1).2.1 (by decide) <| ?_
    obtain rfl := Option.some.inj hf
    exact Runs.retV d30_35 rfl ⟨by decide, by decide⟩ ⟨rfl, rfl⟩
theorem X_clearBitmap_l2_p {C : Ctx} {top : Nat} {a : Nat} {H : List (Nat × Nat × Rec)} {res : Rec} {NF : Nat} (n : Nat) (ob : Rec) (i1 : Int32) (hf : X_clearBitmap_l2 NF n ob i1 = some res) : Runs C B30 0 0 2 [vr a, vi i1] [] (top, (a, 6, ob) :: H) (Ans none (top, (a, 6, res) :: H)) := by
  induction n generalizing ob i1 with
  | zero => cases (show (none : Option (Rec)) = some res from hf)
  | succ n ih => exact X_clearBitmap_w2_p (X_clearBitmap_l2 NF n) (fun ob i1 h => ih _ _ h) ob i1 hf
def X_clearBitmap (NF : Nat) (ob : Rec) : Option (Rec) :=
  X_clearBitmap_l2 NF NF ob (0 : Int32)
set_option maxRecDepth 65536 in
set_option maxHeartbeats 4000000 in
theorem X_clearBitmap_p {C : Ctx} {top : Nat} {a : Nat} {H : List (Nat × Nat × Rec)} {res : Rec} {NF : Nat} (ob : Rec) (hf : X_clearBitmap NF ob = some res) : Runs C B30 0 0 0 [vr a, vn] [] (top, (a, 6, ob) :: H) (Ans none (top, (a, 6, res) :: H)) := by
  delta X_clearBitmap at hf
  exact Runs.iconst d30_0 ci_0 <| Runs.istoreN (P' := [vr a, vi (0 : Int32)]) d30_1 (by decide) rfl <| X_clearBitmap_l2_p NF ob (0 : Int32) hf
theorem X_clearBitmap_pay {C : Ctx} {top : Nat} {a : Nat} {H : List (Nat × Nat × Rec)} {res : Rec} {NF : Nat} {ob : Rec} (hf : X_clearBitmap NF ob = some res) : Pays C B30 [.ref a] (top, (a, 6, ob) :: H) (Ans none (top, (a, 6, res) :: H)) :=
  Pays.of pnK (Nat.le_of_ble_eq_true rfl) (P := [vr a, vn]) 1 rfl (X_clearBitmap_p ob hf)
def X_resync (NF : Nat) (ob : Rec) : Option (Int32 × Rec) :=
  if (gI ob 4) = (0 : Int32) then
    if (gI ob 5) = (0 : Int32) then
      (X_staleLeg ob).bind fun r3 =>
      if r3 = (-1 : Int32) then
        some ((-4 : Int32), ob)
      else
        (X_copyDirtyRegions NF ob ((1 : Int32) - r3) r3).bind fun q6 =>
        (X_clearBitmap NF q6).bind fun q8 =>
        chk (2 : Int32) r3 <|
        some ((0 : Int32), (sA q8 2 r3 (0 : Int32)))
    else
      some ((-3 : Int32), ob)
  else
    some ((-1 : Int32), ob)
set_option maxRecDepth 65536 in
set_option maxHeartbeats 4000000 in
theorem X_resync_p {C : Ctx} {top : Nat} {a : Nat} {H : List (Nat × Nat × Rec)} {res : Int32 × Rec} {NF : Nat} (ob : Rec) (hf : X_resync NF ob = some res) : Runs C B18 0 0 0 [vr a, vn] [] (top, (a, 6, ob) :: H) (Ans (some (.int res.1)) (top, (a, 6, res.2) :: H)) := by
  delta X_resync at hf
  refine Runs.aloadN d18_0 rfl <| Runs.getI d18_1 w34 fS_4 <| ?_
  refine ite_el hf (fun hc1 hf => ?_) (fun hc1 hf => ?_)
  · refine Runs.ifY (pc' := 9) d18_4 (teq hc1).1 (by decide) <| ?_
    refine Runs.aloadN d18_9 rfl <| Runs.getI d18_10 w36 fS_5 <| ?_
    refine ite_el hf (fun hc2 hf => ?_) (fun hc2 hf => ?_)
    · refine Runs.ifY (pc' := 19) d18_13 (teq hc2).1 (by decide) <| ?_
      refine Runs.aloadN d18_19 rfl <| ?_
      refine bind_el hf fun r3 hg4 hf => ?_
      refine Runs.callP (N := B19) (W := 0) (as := []) (S' := []) d18_20 w118 w119 w120 rfl cw19 ar19 rk18_19_0 (by decide) rfl rfl (X_staleLeg_pay hg4) <| ans1 <| Runs.istoreN (P' := [vr a, vi r3]) d18_23 (by decide) rfl <| Runs.iloadN d18_24 rfl <| Runs.iconst d18_25 ci_m1 <| ?_
      refine ite_el hf (fun hc5 hf => ?_) (fun hc5 hf => ?_)
      · refine Runs.icN d18_26 (teq hc5).2 <| ?_
        obtain rfl := Option.some.inj hf
        exact Runs.bipush d18_29 cb_m4 <| Runs.retI d18_31 rfl ⟨by decide, by decide⟩ ⟨rfl, rfl⟩
      · refine Runs.icY (pc' := 32) d18_26 (feq hc5).2 (by decide) <| ?_
        refine Runs.aloadN d18_32 rfl <| Runs.iconst d18_33 ci_1 <| Runs.iloadN d18_34 rfl <| Runs.isub d18_35 <| Runs.iloadN d18_36 rfl <| ?_
        refine bind_el hf fun q6 hg7 hf => ?_
        refine Runs.callP (N := B29) (W := 0) (as := [.int ((1 : Int32) - r3), .int r3]) (S' := []) d18_37 w162 w163 w164 rfl cw29 ar29 rk18_29_0 (by decide) rfl rfl (X_copyDirtyRegions_pay hg7) <| ans0 <| Runs.aloadN d18_40 rfl <| ?_
        refine bind_el hf fun q8 hg9 hf => ?_
        refine Runs.callP (N := B30) (W := 0) (as := []) (S' := []) d18_41 w166 w167 w168 rfl cw30 ar30 rk18_30_0 (by decide) rfl rfl (X_clearBitmap_pay hg9) <| ans0 <| Runs.aloadN d18_44 rfl <| Runs.getA d18_45 fA_2 w14 (by decide) <| Runs.iloadN d18_48 rfl <| Runs.iconst d18_49 ci_0 <| ?_
        refine chk_el hf fun hi10 hf => ?_
        obtain rfl := Option.some.inj hf
        exact Runs.iastoreA d18_50 fA_2 (by decide) hi10 <| Runs.iconst d18_51 ci_0 <| Runs.retI d18_52 rfl ⟨by decide, by decide⟩ ⟨rfl, rfl⟩
    · refine Runs.ifN d18_13 (feq hc2).1 <| ?_
      obtain rfl := Option.some.inj hf
      exact Runs.bipush d18_16 cb_m3 <| Runs.retI d18_18 rfl ⟨by decide, by decide⟩ ⟨rfl, rfl⟩
  · refine Runs.ifN d18_4 (feq hc1).1 <| ?_
    obtain rfl := Option.some.inj hf
    exact Runs.iconst d18_7 ci_m1 <| Runs.retI d18_8 rfl ⟨by decide, by decide⟩ ⟨rfl, rfl⟩
theorem X_resync_pay {C : Ctx} {top : Nat} {a : Nat} {H : List (Nat × Nat × Rec)} {res : Int32 × Rec} {NF : Nat} {ob : Rec} (hf : X_resync NF ob = some res) : Pays C B18 [.ref a] (top, (a, 6, ob) :: H) (Ans (some (.int res.1)) (top, (a, 6, res.2) :: H)) :=
  Pays.of pnK (Nat.le_of_ble_eq_true rfl) (P := [vr a, vn]) 1 rfl (X_resync_p ob hf)
def X_isDown (ob : Rec) : Option (Int32) :=
  some ((gI ob 4) &&& 1)
set_option maxRecDepth 65536 in
set_option maxHeartbeats 4000000 in
theorem X_isDown_p {C : Ctx} {top : Nat} {a : Nat} {H : List (Nat × Nat × Rec)} {ob : Rec} {res : Int32} (hf : X_isDown ob = some res) : Runs C B12 0 0 0 [vr a] [] (top, (a, 6, ob) :: H) (Ans (some (.int res)) (top, (a, 6, ob) :: H)) := by
  delta X_isDown at hf
  obtain rfl := Option.some.inj hf
  exact Runs.aloadN d12_0 rfl <| Runs.getI d12_1 w34 fS_4 <| Runs.retZ (y := ((gI ob 4) &&& 1)) d12_4 rfl ⟨by decide, by decide⟩ rfl ⟨rfl, rfl⟩
theorem X_isDown_pay {C : Ctx} {top : Nat} {a : Nat} {H : List (Nat × Nat × Rec)} {ob : Rec} {res : Int32} (hf : X_isDown ob = some res) : Pays C B12 [.ref a] (top, (a, 6, ob) :: H) (Ans (some (.int res)) (top, (a, 6, ob) :: H)) :=
  Pays.of pnK (Nat.le_of_ble_eq_true rfl) (P := [vr a]) 0 rfl (X_isDown_p hf)
def X_pendingBlock (ob : Rec) : Option (Int32) :=
  if (gI ob 5) = (0 : Int32) then
    some (-1 : Int32)
  else
    some (gI ob 6)
set_option maxRecDepth 65536 in
set_option maxHeartbeats 4000000 in
theorem X_pendingBlock_p {C : Ctx} {top : Nat} {a : Nat} {H : List (Nat × Nat × Rec)} {ob : Rec} {res : Int32} (hf : X_pendingBlock ob = some res) : Runs C B13 0 0 0 [vr a] [] (top, (a, 6, ob) :: H) (Ans (some (.int res)) (top, (a, 6, ob) :: H)) := by
  delta X_pendingBlock at hf
  refine Runs.aloadN d13_0 rfl <| Runs.getI d13_1 w36 fS_5 <| ?_
  refine ite_el hf (fun hc1 hf => ?_) (fun hc1 hf => ?_)
  · refine Runs.ifY (pc' := 14) d13_4 (teq hc1).1 (by decide) <| ?_
    obtain rfl := Option.some.inj hf
    exact Runs.iconst d13_14 ci_m1 <| Runs.retI d13_15 rfl ⟨by decide, by decide⟩ ⟨rfl, rfl⟩
  · refine Runs.ifN d13_4 (feq hc1).1 <| ?_
    obtain rfl := Option.some.inj hf
    exact Runs.aloadN d13_7 rfl <| Runs.getI d13_8 w38 fS_6 <| Runs.goto (pc' := 15) d13_11 (by decide) <| Runs.retI d13_15 rfl ⟨by decide, by decide⟩ ⟨rfl, rfl⟩
theorem X_pendingBlock_pay {C : Ctx} {top : Nat} {a : Nat} {H : List (Nat × Nat × Rec)} {ob : Rec} {res : Int32} (hf : X_pendingBlock ob = some res) : Pays C B13 [.ref a] (top, (a, 6, ob) :: H) (Ans (some (.int res)) (top, (a, 6, ob) :: H)) :=
  Pays.of pnK (Nat.le_of_ble_eq_true rfl) (P := [vr a]) 0 rfl (X_pendingBlock_p hf)
def X_ageOthers_w2 (NF : Nat) (k2 : Rec → Int32 → Int32 → Option (Rec)) (ob : Rec) (i1 : Int32) (i2 : Int32) : Option (Rec) :=
  if i2 < (gI ob 3) then
    if i2 = i1 then
      k2 ob i1 (i2 + (1 : Int32))
    else
      chk (32 : Int32) i2 <|
      if (gA ob 4 i2) = (0 : Int32) then
        k2 ob i1 (i2 + (1 : Int32))
      else
        chk (32 : Int32) i2 <|
        if (gA ob 5 i2) < (gI ob 2) then
          chk (32 : Int32) i2 <|
          chk (32 : Int32) i2 <|
          k2 (sA ob 5 i2 ((gA ob 5 i2) + (1 : Int32))) i1 (i2 + (1 : Int32))
        else
          k2 ob i1 (i2 + (1 : Int32))
  else
    some ob
def X_ageOthers_l2 (NF : Nat) : Nat → Rec → Int32 → Int32 → Option (Rec)
  | 0, _, _, _ => none
  | n + 1, ob, i1, i2 => X_ageOthers_w2 NF (X_ageOthers_l2 NF n) ob i1 i2
set_option maxRecDepth 65536 in
set_option maxHeartbeats 4000000 in
theorem X_ageOthers_w2_p {C : Ctx} {top : Nat} {a : Nat} {H : List (Nat × Nat × Rec)} {res : Rec} {NF : Nat} (k2 : Rec → Int32 → Int32 → Option (Rec)) (hk2 : ∀ (ob : Rec) (i1 : Int32) (i2 : Int32), k2 ob i1 i2 = some res → Runs C B26 0 0 2 [vr a, vi i1, vi i2] [] (top, (a, 6, ob) :: H) (Ans none (top, (a, 6, res) :: H))) (ob : Rec) (i1 : Int32) (i2 : Int32) (hf : X_ageOthers_w2 NF k2 ob i1 i2 = some res) : Runs C B26 0 0 2 [vr a, vi i1, vi i2] [] (top, (a, 6, ob) :: H) (Ans none (top, (a, 6, res) :: H)) := by
  delta X_ageOthers_w2 at hf
  refine Runs.iloadN d26_2 rfl <| Runs.aloadN d26_3 rfl <| Runs.getI d26_4 w32 fS_3 <| ?_
  refine ite_el hf (fun hc1 hf => ?_) (fun hc1 hf => ?_)
  · refine Runs.icN d26_7 (tlt hc1).2.1 <| ?_
    refine Runs.iloadN d26_10 rfl <| Runs.iloadN d26_11 rfl <| ?_
    refine ite_el hf (fun hc2 hf => ?_) (fun hc2 hf => ?_)
    · refine Runs.icY (pc' := 47) d26_12 (teq hc2).1 (by decide) <| ?_
      exact Runs.iinc (P' := [vr a, vi i1, vi (i2 + (1 : Int32))]) d26_47 ci_1 rfl (by decide) rfl <| Runs.goto (pc' := 2) d26_50 (by decide) <| hk2 ob i1 (i2 + (1 : Int32)) hf
    · refine Runs.icN d26_12 (feq hc2).1 <| ?_
      refine Runs.aloadN d26_15 rfl <| Runs.getA d26_16 fA_4 w19 (by decide) <| Runs.iloadN d26_19 rfl <| ?_
      refine chk_el hf fun hi3 hf => ?_
      refine Runs.baloadA d26_20 fA_4 (by decide) hi3 <| ?_
      refine ite_el hf (fun hc4 hf => ?_) (fun hc4 hf => ?_)
      · refine Runs.ifY (pc' := 47) d26_21 (teq hc4).1 (by decide) <| ?_
        exact Runs.iinc (P' := [vr a, vi i1, vi (i2 + (1 : Int32))]) d26_47 ci_1 rfl (by decide) rfl <| Runs.goto (pc' := 2) d26_50 (by decide) <| hk2 ob i1 (i2 + (1 : Int32)) hf
      · refine Runs.ifN d26_21 (feq hc4).1 <| ?_
        refine Runs.aloadN d26_24 rfl <| Runs.getA d26_25 fA_5 w21 (by decide) <| Runs.iloadN d26_28 rfl <| ?_
        refine chk_el hf fun hi5 hf => ?_
        refine Runs.ialoadA d26_29 fA_5 (by decide) hi5 <| Runs.aloadN d26_30 rfl <| Runs.getI d26_31 w30 fS_2 <| ?_
        refine ite_el hf (fun hc6 hf => ?_) (fun hc6 hf => ?_)
        · refine Runs.icN d26_34 (tlt hc6).2.1 <| ?_
          refine Runs.aloadN d26_37 rfl <| Runs.getA d26_38 fA_5 w21 (by decide) <| Runs.iloadN d26_41 rfl <| Runs.dup2 d26_42 rfl rfl <| ?_
          refine chk_el hf fun hi7 hf => ?_
          refine Runs.ialoadA d26_43 fA_5 (by decide) hi7 <| Runs.iconst d26_44 ci_1 <| Runs.iadd d26_45 <| ?_
          refine chk_el hf fun hi8 hf => ?_
          exact Runs.iastoreA d26_46 fA_5 (by decide) hi8 <| Runs.iinc (P' := [vr a, vi i1, vi (i2 + (1 : Int32))]) d26_47 ci_1 rfl (by decide) rfl <| Runs.goto (pc' := 2) d26_50 (by decide) <| hk2 (sA ob 5 i2 ((gA ob 5 i2) + (1 : Int32))) i1 (i2 + (1 : Int32)) hf
        · refine Runs.icY (pc' := 47) d26_34 (flt hc6).2.1 (by decide) <| ?_
          exact Runs.iinc (P' := [vr a, vi i1, vi (i2 + (1 : Int32))]) d26_47 ci_1 rfl (by decide) rfl <| Runs.goto (pc' := 2) d26_50 (by decide) <| hk2 ob i1 (i2 + (1 : Int32)) hf
  · refine Runs.icY (pc' := 53) d26_7 (flt hc1).2.1 (by decide) <| ?_
    obtain rfl := Option.some.inj hf
    exact Runs.retV d26_53 rfl ⟨by decide, by decide⟩ ⟨rfl, rfl⟩
theorem X_ageOthers_l2_p {C : Ctx} {top : Nat} {a : Nat} {H : List (Nat × Nat × Rec)} {res : Rec} {NF : Nat} (n : Nat) (ob : Rec) (i1 : Int32) (i2 : Int32) (hf : X_ageOthers_l2 NF n ob i1 i2 = some res) : Runs C B26 0 0 2 [vr a, vi i1, vi i2] [] (top, (a, 6, ob) :: H) (Ans none (top, (a, 6, res) :: H)) := by
  induction n generalizing ob i1 i2 with
  | zero => cases (show (none : Option (Rec)) = some res from hf)
  | succ n ih => exact X_ageOthers_w2_p (X_ageOthers_l2 NF n) (fun ob i1 i2 h => ih _ _ _ h) ob i1 i2 hf
def X_ageOthers (NF : Nat) (ob : Rec) (i1 : Int32) : Option (Rec) :=
  X_ageOthers_l2 NF NF ob i1 (0 : Int32)
set_option maxRecDepth 65536 in
set_option maxHeartbeats 4000000 in
theorem X_ageOthers_p {C : Ctx} {top : Nat} {a : Nat} {H : List (Nat × Nat × Rec)} {res : Rec} {NF : Nat} (ob : Rec) (i1 : Int32) (hf : X_ageOthers NF ob i1 = some res) : Runs C B26 0 0 0 [vr a, vi i1, vn] [] (top, (a, 6, ob) :: H) (Ans none (top, (a, 6, res) :: H)) := by
  delta X_ageOthers at hf
  exact Runs.iconst d26_0 ci_0 <| Runs.istoreN (P' := [vr a, vi i1, vi (0 : Int32)]) d26_1 (by decide) rfl <| X_ageOthers_l2_p NF ob i1 (0 : Int32) hf
theorem X_ageOthers_pay {C : Ctx} {top : Nat} {a : Nat} {H : List (Nat × Nat × Rec)} {res : Rec} {NF : Nat} {ob : Rec} {i1 : Int32} (hf : X_ageOthers NF ob i1 = some res) : Pays C B26 [.ref a, .int i1] (top, (a, 6, ob) :: H) (Ans none (top, (a, 6, res) :: H)) :=
  Pays.of pnK (Nat.le_of_ble_eq_true rfl) (P := [vr a, vi i1, vn]) 1 rfl (X_ageOthers_p ob i1 hf)
def X_bothActive (ob : Rec) : Option (Int32) :=
  chk (2 : Int32) (0 : Int32) <|
  if (gA ob 2 (0 : Int32)) = (0 : Int32) then
    chk (2 : Int32) (1 : Int32) <|
    if (gA ob 2 (1 : Int32)) = (0 : Int32) then
      some (1 : Int32)
    else
      some (0 : Int32)
  else
    some (0 : Int32)
set_option maxRecDepth 65536 in
set_option maxHeartbeats 4000000 in
theorem X_bothActive_p {C : Ctx} {top : Nat} {a : Nat} {H : List (Nat × Nat × Rec)} {ob : Rec} {res : Int32} (hf : X_bothActive ob = some res) : Runs C B27 0 0 0 [vr a] [] (top, (a, 6, ob) :: H) (Ans (some (.int res)) (top, (a, 6, ob) :: H)) := by
  delta X_bothActive at hf
  refine Runs.aloadN d27_0 rfl <| Runs.getA d27_1 fA_2 w14 (by decide) <| Runs.iconst d27_4 ci_0 <| ?_
  refine chk_el hf fun hi1 hf => ?_
  refine Runs.ialoadA d27_5 fA_2 (by decide) hi1 <| ?_
  refine ite_el hf (fun hc2 hf => ?_) (fun hc2 hf => ?_)
  · refine Runs.ifN d27_6 (teq hc2).2 <| ?_
    refine Runs.aloadN d27_9 rfl <| Runs.getA d27_10 fA_2 w14 (by decide) <| Runs.iconst d27_13 ci_1 <| ?_
    refine chk_el hf fun hi3 hf => ?_
    refine Runs.ialoadA d27_14 fA_2 (by decide) hi3 <| ?_
    refine ite_el hf (fun hc4 hf => ?_) (fun hc4 hf => ?_)
    · refine Runs.ifN d27_15 (teq hc4).2 <| ?_
      obtain rfl := Option.some.inj hf
      exact Runs.iconst d27_18 ci_1 <| Runs.goto (pc' := 23) d27_19 (by decide) <| Runs.retZ (y := (1 : Int32)) d27_23 rfl ⟨by decide, by decide⟩ rfl ⟨rfl, rfl⟩
    · refine Runs.ifY (pc' := 22) d27_15 (feq hc4).2 (by decide) <| ?_
      obtain rfl := Option.some.inj hf
      exact Runs.iconst d27_22 ci_0 <| Runs.retZ (y := (0 : Int32)) d27_23 rfl ⟨by decide, by decide⟩ rfl ⟨rfl, rfl⟩
  · refine Runs.ifY (pc' := 22) d27_6 (feq hc2).2 (by decide) <| ?_
    obtain rfl := Option.some.inj hf
    exact Runs.iconst d27_22 ci_0 <| Runs.retZ (y := (0 : Int32)) d27_23 rfl ⟨by decide, by decide⟩ rfl ⟨rfl, rfl⟩
theorem X_bothActive_pay {C : Ctx} {top : Nat} {a : Nat} {H : List (Nat × Nat × Rec)} {ob : Rec} {res : Int32} (hf : X_bothActive ob = some res) : Pays C B27 [.ref a] (top, (a, 6, ob) :: H) (Ans (some (.int res)) (top, (a, 6, ob) :: H)) :=
  Pays.of pnK (Nat.le_of_ble_eq_true rfl) (P := [vr a]) 0 rfl (X_bothActive_p hf)
def X_clearAged_w2 (NF : Nat) (k2 : Rec → Int32 → Option (Rec)) (ob : Rec) (i1 : Int32) : Option (Rec) :=
  if i1 < (gI ob 3) then
    chk (32 : Int32) i1 <|
    if (gA ob 3 i1) = (0 : Int32) then
      k2 ob (i1 + (1 : Int32))
    else
      chk (32 : Int32) i1 <|
      if (gA ob 4 i1) = (0 : Int32) then
        k2 ob (i1 + (1 : Int32))
      else
        chk (32 : Int32) i1 <|
        if (gA ob 5 i1) < (gI ob 2) then
          k2 ob (i1 + (1 : Int32))
        else
          chk (32 : Int32) i1 <|
          chk (32 : Int32) i1 <|
          chk (32 : Int32) i1 <|
          k2 (sA (sA (sA ob 3 i1 (0 : Int32)) 4 i1 (0 : Int32)) 5 i1 (0 : Int32)) (i1 + (1 : Int32))
  else
    some ob
def X_clearAged_l2 (NF : Nat) : Nat → Rec → Int32 → Option (Rec)
  | 0, _, _ => none
  | n + 1, ob, i1 => X_clearAged_w2 NF (X_clearAged_l2 NF n) ob i1
set_option maxRecDepth 65536 in
set_option maxHeartbeats 4000000 in
theorem X_clearAged_w2_p {C : Ctx} {top : Nat} {a : Nat} {H : List (Nat × Nat × Rec)} {res : Rec} {NF : Nat} (k2 : Rec → Int32 → Option (Rec)) (hk2 : ∀ (ob : Rec) (i1 : Int32), k2 ob i1 = some res → Runs C B33 0 0 2 [vr a, vi i1] [] (top, (a, 6, ob) :: H) (Ans none (top, (a, 6, res) :: H))) (ob : Rec) (i1 : Int32) (hf : X_clearAged_w2 NF k2 ob i1 = some res) : Runs C B33 0 0 2 [vr a, vi i1] [] (top, (a, 6, ob) :: H) (Ans none (top, (a, 6, res) :: H)) := by
  delta X_clearAged_w2 at hf
  refine Runs.iloadN d33_2 rfl <| Runs.aloadN d33_3 rfl <| Runs.getI d33_4 w32 fS_3 <| ?_
  refine ite_el hf (fun hc1 hf => ?_) (fun hc1 hf => ?_)
  · refine Runs.icN d33_7 (tlt hc1).2.1 <| ?_
    refine Runs.aloadN d33_10 rfl <| Runs.getA d33_11 fA_3 w17 (by decide) <| Runs.iloadN d33_14 rfl <| ?_
    refine chk_el hf fun hi2 hf => ?_
    refine Runs.baloadA d33_15 fA_3 (by decide) hi2 <| ?_
    refine ite_el hf (fun hc3 hf => ?_) (fun hc3 hf => ?_)
    · refine Runs.ifY (pc' := 62) d33_16 (teq hc3).1 (by decide) <| ?_
      exact Runs.iinc (P' := [vr a, vi (i1 + (1 : Int32))]) d33_62 ci_1 rfl (by decide) rfl <| Runs.goto (pc' := 2) d33_65 (by decide) <| hk2 ob (i1 + (1 : Int32)) hf
    · refine Runs.ifN d33_16 (feq hc3).1 <| ?_
      refine Runs.aloadN d33_19 rfl <| Runs.getA d33_20 fA_4 w19 (by decide) <| Runs.iloadN d33_23 rfl <| ?_
      refine chk_el hf fun hi4 hf => ?_
      refine Runs.baloadA d33_24 fA_4 (by decide) hi4 <| ?_
      refine ite_el hf (fun hc5 hf => ?_) (fun hc5 hf => ?_)
      · refine Runs.ifY (pc' := 62) d33_25 (teq hc5).1 (by decide) <| ?_
        exact Runs.iinc (P' := [vr a, vi (i1 + (1 : Int32))]) d33_62 ci_1 rfl (by decide) rfl <| Runs.goto (pc' := 2) d33_65 (by decide) <| hk2 ob (i1 + (1 : Int32)) hf
      · refine Runs.ifN d33_25 (feq hc5).1 <| ?_
        refine Runs.aloadN d33_28 rfl <| Runs.getA d33_29 fA_5 w21 (by decide) <| Runs.iloadN d33_32 rfl <| ?_
        refine chk_el hf fun hi6 hf => ?_
        refine Runs.ialoadA d33_33 fA_5 (by decide) hi6 <| Runs.aloadN d33_34 rfl <| Runs.getI d33_35 w30 fS_2 <| ?_
        refine ite_el hf (fun hc7 hf => ?_) (fun hc7 hf => ?_)
        · refine Runs.icY (pc' := 62) d33_38 (tlt hc7).1 (by decide) <| ?_
          exact Runs.iinc (P' := [vr a, vi (i1 + (1 : Int32))]) d33_62 ci_1 rfl (by decide) rfl <| Runs.goto (pc' := 2) d33_65 (by decide) <| hk2 ob (i1 + (1 : Int32)) hf
        · refine Runs.icN d33_38 (flt hc7).1 <| ?_
          refine Runs.aloadN d33_41 rfl <| Runs.getA d33_42 fA_3 w17 (by decide) <| Runs.iloadN d33_45 rfl <| Runs.iconst d33_46 ci_0 <| ?_
          refine chk_el hf fun hi8 hf => ?_
          refine Runs.bastoreA (y := (0 : Int32)) d33_47 fA_3 (by decide) hi8 rfl <| Runs.aloadN d33_48 rfl <| Runs.getA d33_49 fA_4 w19 (by decide) <| Runs.iloadN d33_52 rfl <| Runs.iconst d33_53 ci_0 <| ?_
          refine chk_el hf fun hi9 hf => ?_
          refine Runs.bastoreA (y := (0 : Int32)) d33_54 fA_4 (by decide) hi9 rfl <| Runs.aloadN d33_55 rfl <| Runs.getA d33_56 fA_5 w21 (by decide) <| Runs.iloadN d33_59 rfl <| Runs.iconst d33_60 ci_0 <| ?_
          refine chk_el hf fun hi10 hf => ?_
          exact Runs.iastoreA d33_61 fA_5 (by decide) hi10 <| Runs.iinc (P' := [vr a, vi (i1 + (1 : Int32))]) d33_62 ci_1 rfl (by decide) rfl <| Runs.goto (pc' := 2) d33_65 (by decide) <| hk2 (sA (sA (sA ob 3 i1 (0 : Int32)) 4 i1 (0 : Int32)) 5 i1 (0 : Int32)) (i1 + (1 : Int32)) hf
  · refine Runs.icY (pc' := 68) d33_7 (flt hc1).2.1 (by decide) <| ?_
    obtain rfl := Option.some.inj hf
    exact Runs.retV d33_68 rfl ⟨by decide, by decide⟩ ⟨rfl, rfl⟩
theorem X_clearAged_l2_p {C : Ctx} {top : Nat} {a : Nat} {H : List (Nat × Nat × Rec)} {res : Rec} {NF : Nat} (n : Nat) (ob : Rec) (i1 : Int32) (hf : X_clearAged_l2 NF n ob i1 = some res) : Runs C B33 0 0 2 [vr a, vi i1] [] (top, (a, 6, ob) :: H) (Ans none (top, (a, 6, res) :: H)) := by
  induction n generalizing ob i1 with
  | zero => cases (show (none : Option (Rec)) = some res from hf)
  | succ n ih => exact X_clearAged_w2_p (X_clearAged_l2 NF n) (fun ob i1 h => ih _ _ h) ob i1 hf
def X_clearAged (NF : Nat) (ob : Rec) : Option (Rec) :=
  X_clearAged_l2 NF NF ob (0 : Int32)
set_option maxRecDepth 65536 in
set_option maxHeartbeats 4000000 in
theorem X_clearAged_p {C : Ctx} {top : Nat} {a : Nat} {H : List (Nat × Nat × Rec)} {res : Rec} {NF : Nat} (ob : Rec) (hf : X_clearAged NF ob = some res) : Runs C B33 0 0 0 [vr a, vn] [] (top, (a, 6, ob) :: H) (Ans none (top, (a, 6, res) :: H)) := by
  delta X_clearAged at hf
  exact Runs.iconst d33_0 ci_0 <| Runs.istoreN (P' := [vr a, vi (0 : Int32)]) d33_1 (by decide) rfl <| X_clearAged_l2_p NF ob (0 : Int32) hf
theorem X_clearAged_pay {C : Ctx} {top : Nat} {a : Nat} {H : List (Nat × Nat × Rec)} {res : Rec} {NF : Nat} {ob : Rec} (hf : X_clearAged NF ob = some res) : Pays C B33 [.ref a] (top, (a, 6, ob) :: H) (Ans none (top, (a, 6, res) :: H)) :=
  Pays.of pnK (Nat.le_of_ble_eq_true rfl) (P := [vr a, vn]) 1 rfl (X_clearAged_p ob hf)
def X_acknowledge (NF : Nat) (ob : Rec) : Option (Rec) :=
  chk (32 : Int32) (gI ob 6) <|
  (X_clearPending (sA ob 1 (gI ob 6) (gI ob 7))).bind fun q2 =>
  dvz (gI q2 1) <|
  (X_ageOthers NF q2 ((gI ob 6) / (gI q2 1))).bind fun q5 =>
  chk (32 : Int32) ((gI ob 6) / (gI q2 1)) <|
  chk (32 : Int32) ((gI ob 6) / (gI q2 1)) <|
  (X_bothActive (sA (sA q5 4 ((gI ob 6) / (gI q2 1)) (1 : Int32)) 5 ((gI ob 6) / (gI q2 1)) (0 : Int32))).bind fun r9 =>
  if r9 = (0 : Int32) then
    some (sA (sA q5 4 ((gI ob 6) / (gI q2 1)) (1 : Int32)) 5 ((gI ob 6) / (gI q2 1)) (0 : Int32))
  else
    (X_clearAged NF (sA (sA q5 4 ((gI ob 6) / (gI q2 1)) (1 : Int32)) 5 ((gI ob 6) / (gI q2 1)) (0 : Int32))).bind fun q12 =>
    some q12
set_option maxRecDepth 65536 in
set_option maxHeartbeats 4000000 in
theorem X_acknowledge_p {C : Ctx} {top : Nat} {a : Nat} {H : List (Nat × Nat × Rec)} {res : Rec} {NF : Nat} (ob : Rec) (hf : X_acknowledge NF ob = some res) : Runs C B25 0 0 0 [vr a, vn, vn] [] (top, (a, 6, ob) :: H) (Ans none (top, (a, 6, res) :: H)) := by
  delta X_acknowledge at hf
  refine Runs.aloadN d25_0 rfl <| Runs.getI d25_1 w38 fS_6 <| Runs.istoreN (P' := [vr a, vi (gI ob 6), vn]) d25_4 (by decide) rfl <| Runs.aloadN d25_5 rfl <| Runs.getA d25_6 fA_1 w12 (by decide) <| Runs.iloadN d25_9 rfl <| Runs.aloadN d25_10 rfl <| Runs.getI d25_11 w40 fS_7 <| ?_
  refine chk_el hf fun hi1 hf => ?_
  refine Runs.iastoreA d25_14 fA_1 (by decide) hi1 <| Runs.aloadN d25_15 rfl <| ?_
  refine bind_el hf fun q2 hg3 hf => ?_
  refine Runs.callP (N := B4) (W := 0) (as := []) (S' := []) d25_16 w49 w50 w51 rfl cw4 ar4 rk25_4_0 (by decide) rfl rfl (X_clearPending_pay hg3) <| ans0 <| Runs.iloadN d25_19 rfl <| Runs.aloadN d25_20 rfl <| Runs.getI d25_21 w28 fS_1 <| ?_
  refine dvz_el hf fun hz4 hf => ?_
  refine Runs.idiv d25_24 hz4 <| Runs.istoreN (P' := [vr a, vi (gI ob 6), vi ((gI ob 6) / (gI q2 1))]) d25_25 (by decide) rfl <| Runs.aloadN d25_26 rfl <| Runs.iloadN d25_27 rfl <| ?_
  refine bind_el hf fun q5 hg6 hf => ?_
  refine Runs.callP (N := B26) (W := 0) (as := [.int ((gI ob 6) / (gI q2 1))]) (S' := []) d25_28 w149 w150 w151 rfl cw26 ar26 rk25_26_0 (by decide) rfl rfl (X_ageOthers_pay hg6) <| ans0 <| Runs.aloadN d25_31 rfl <| Runs.getA d25_32 fA_4 w19 (by decide) <| Runs.iloadN d25_35 rfl <| Runs.iconst d25_36 ci_1 <| ?_
  refine chk_el hf fun hi7 hf => ?_
  refine Runs.bastoreA (y := (1 : Int32)) d25_37 fA_4 (by decide) hi7 rfl <| Runs.aloadN d25_38 rfl <| Runs.getA d25_39 fA_5 w21 (by decide) <| Runs.iloadN d25_42 rfl <| Runs.iconst d25_43 ci_0 <| ?_
  refine chk_el hf fun hi8 hf => ?_
  refine Runs.iastoreA d25_44 fA_5 (by decide) hi8 <| Runs.aloadN d25_45 rfl <| ?_
  refine bind_el hf fun r9 hg10 hf => ?_
  refine Runs.callP (N := B27) (W := 0) (as := []) (S' := []) d25_46 w153 w154 w155 rfl cw27 ar27 rk25_27_0 (by decide) rfl rfl (X_bothActive_pay hg10) <| ans1 <| ?_
  refine ite_el hf (fun hc11 hf => ?_) (fun hc11 hf => ?_)
  · refine Runs.ifY (pc' := 56) d25_49 (teq hc11).1 (by decide) <| ?_
    obtain rfl := Option.some.inj hf
    exact Runs.retV d25_56 rfl ⟨by decide, by decide⟩ ⟨rfl, rfl⟩
  · refine Runs.ifN d25_49 (feq hc11).1 <| ?_
    refine Runs.aloadN d25_52 rfl <| ?_
    refine bind_el hf fun q12 hg13 hf => ?_
    obtain rfl := Option.some.inj hf
    exact Runs.callP (N := B33) (W := 0) (as := []) (S' := []) d25_53 w178 w179 w180 rfl cw33 ar33 rk25_33_0 (by decide) rfl rfl (X_clearAged_pay hg13) <| ans0 <| Runs.retV d25_56 rfl ⟨by decide, by decide⟩ ⟨rfl, rfl⟩
theorem X_acknowledge_pay {C : Ctx} {top : Nat} {a : Nat} {H : List (Nat × Nat × Rec)} {res : Rec} {NF : Nat} {ob : Rec} (hf : X_acknowledge NF ob = some res) : Pays C B25 [.ref a] (top, (a, 6, ob) :: H) (Ans none (top, (a, 6, res) :: H)) :=
  Pays.of pnK (Nat.le_of_ble_eq_true rfl) (P := [vr a, vn, vn]) 2 rfl (X_acknowledge_p ob hf)
def X_step_b53 (NF : Nat) (ob : Rec) : Option (Int32 × Rec) :=
  if (1 : Int32) < (gI ob 8) then
    (X_acknowledge NF ob).bind fun q5 =>
    some ((3 : Int32), q5)
  else
    chk (64 : Int32) (((gI ob 8) * (32 : Int32)) + (gI ob 6)) <|
    if (gI ob 8) = (0 : Int32) then
      some ((1 : Int32), (sI (sA ob 0 (((gI ob 8) * (32 : Int32)) + (gI ob 6)) (gI ob 7)) 8 ((gI ob 8) + (1 : Int32))))
    else
      some ((2 : Int32), (sI (sA ob 0 (((gI ob 8) * (32 : Int32)) + (gI ob 6)) (gI ob 7)) 8 ((gI ob 8) + (1 : Int32))))
set_option maxRecDepth 65536 in
set_option maxHeartbeats 4000000 in
theorem X_step_b53_p {C : Ctx} {top : Nat} {a : Nat} {H : List (Nat × Nat × Rec)} {res : Int32 × Rec} {NF : Nat} (ob : Rec) (hf : X_step_b53 NF ob = some res) : Runs C B22 0 0 53 [vr a, vn] [] (top, (a, 6, ob) :: H) (Ans (some (.int res.1)) (top, (a, 6, res.2) :: H)) := by
  delta X_step_b53 at hf
  refine Runs.aloadN d22_53 rfl <| Runs.getI d22_54 w42 fS_8 <| Runs.iconst d22_57 ci_1 <| ?_
  refine ite_el hf (fun hc4 hf => ?_) (fun hc4 hf => ?_)
  · refine Runs.icY (pc' := 104) d22_58 (tlt hc4).2.2.1 (by decide) <| ?_
    refine Runs.aloadN d22_104 rfl <| ?_
    refine bind_el hf fun q5 hg6 hf => ?_
    obtain rfl := Option.some.inj hf
    exact Runs.callP (N := B25) (W := 0) (as := []) (S' := []) d22_105 w145 w146 w147 rfl cw25 ar25 rk22_25_0 (by decide) rfl rfl (X_acknowledge_pay hg6) <| ans0 <| Runs.iconst d22_108 ci_3 <| Runs.retI d22_109 rfl ⟨by decide, by decide⟩ ⟨rfl, rfl⟩
  · refine Runs.icN d22_58 (flt hc4).2.2.1 <| ?_
    refine Runs.aloadN d22_61 rfl <| Runs.getI d22_62 w42 fS_8 <| Runs.istoreN (P' := [vr a, vi (gI ob 8)]) d22_65 (by decide) rfl <| Runs.aloadN d22_66 rfl <| Runs.getA d22_67 fA_0 w10 (by decide) <| Runs.iloadN d22_70 rfl <| Runs.bipush d22_71 cb_32 <| Runs.imul d22_73 <| Runs.aloadN d22_74 rfl <| Runs.getI d22_75 w38 fS_6 <| Runs.iadd d22_78 <| Runs.aloadN d22_79 rfl <| ?_
    refine Runs.getI d22_80 w40 fS_7 <| ?_
    refine chk_el hf fun hi7 hf => ?_
    refine Runs.iastoreA d22_83 fA_0 (by decide) hi7 <| Runs.aloadN d22_84 rfl <| Runs.dup d22_85 rfl <| Runs.getI d22_86 w42 fS_8 <| Runs.iconst d22_89 ci_1 <| Runs.iadd d22_90 <| Runs.putI d22_91 w42 fS_8 (Or.inl w43) <| Runs.iloadN d22_94 rfl <| ?_
    refine ite_el hf (fun hc8 hf => ?_) (fun hc8 hf => ?_)
    · refine Runs.ifN d22_95 (teq hc8).2 <| ?_
      obtain rfl := Option.some.inj hf
      exact Runs.iconst d22_98 ci_1 <| Runs.goto (pc' := 103) d22_99 (by decide) <| Runs.retI d22_103 rfl ⟨by decide, by decide⟩ ⟨rfl, rfl⟩
    · refine Runs.ifY (pc' := 102) d22_95 (feq hc8).2 (by decide) <| ?_
      obtain rfl := Option.some.inj hf
      exact Runs.iconst d22_102 ci_2 <| Runs.retI d22_103 rfl ⟨by decide, by decide⟩ ⟨rfl, rfl⟩
def X_step_w19 (NF : Nat) (k19 : Rec → Option (Int32 × Rec)) (ob : Rec) : Option (Int32 × Rec) :=
  if (1 : Int32) < (gI ob 8) then
    X_step_b53 NF ob
  else
    chk (2 : Int32) (gI ob 8) <|
    if (gA ob 2 (gI ob 8)) = (2 : Int32) then
      k19 (sI ob 8 ((gI ob 8) + (1 : Int32)))
    else
      X_step_b53 NF ob
def X_step_l19 (NF : Nat) : Nat → Rec → Option (Int32 × Rec)
  | 0, _ => none
  | n + 1, ob => X_step_w19 NF (X_step_l19 NF n) ob
set_option maxRecDepth 65536 in
set_option maxHeartbeats 4000000 in
theorem X_step_w19_p {C : Ctx} {top : Nat} {a : Nat} {H : List (Nat × Nat × Rec)} {res : Int32 × Rec} {NF : Nat} (k19 : Rec → Option (Int32 × Rec)) (hk19 : ∀ (ob : Rec), k19 ob = some res → Runs C B22 0 0 19 [vr a, vn] [] (top, (a, 6, ob) :: H) (Ans (some (.int res.1)) (top, (a, 6, res.2) :: H))) (ob : Rec) (hf : X_step_w19 NF k19 ob = some res) : Runs C B22 0 0 19 [vr a, vn] [] (top, (a, 6, ob) :: H) (Ans (some (.int res.1)) (top, (a, 6, res.2) :: H)) := by
  delta X_step_w19 at hf
  refine Runs.aloadN d22_19 rfl <| Runs.getI d22_20 w42 fS_8 <| Runs.iconst d22_23 ci_1 <| ?_
  refine ite_el hf (fun hc1 hf => ?_) (fun hc1 hf => ?_)
  · exact Runs.icY (pc' := 53) d22_24 (tlt hc1).2.2.1 (by decide) <| X_step_b53_p ob hf
  · refine Runs.icN d22_24 (flt hc1).2.2.1 <| ?_
    refine Runs.aloadN d22_27 rfl <| Runs.getA d22_28 fA_2 w14 (by decide) <| Runs.aloadN d22_31 rfl <| Runs.getI d22_32 w42 fS_8 <| ?_
    refine chk_el hf fun hi2 hf => ?_
    refine Runs.ialoadA d22_35 fA_2 (by decide) hi2 <| Runs.iconst d22_36 ci_2 <| ?_
    refine ite_el hf (fun hc3 hf => ?_) (fun hc3 hf => ?_)
    · refine Runs.icN d22_37 (teq hc3).2 <| ?_
      exact Runs.aloadN d22_40 rfl <| Runs.dup d22_41 rfl <| Runs.getI d22_42 w42 fS_8 <| Runs.iconst d22_45 ci_1 <| Runs.iadd d22_46 <| Runs.putI d22_47 w42 fS_8 (Or.inl w43) <| Runs.goto (pc' := 19) d22_50 (by decide) <| hk19 (sI ob 8 ((gI ob 8) + (1 : Int32))) hf
    · exact Runs.icY (pc' := 53) d22_37 (feq hc3).2 (by decide) <| X_step_b53_p ob hf
theorem X_step_l19_p {C : Ctx} {top : Nat} {a : Nat} {H : List (Nat × Nat × Rec)} {res : Int32 × Rec} {NF : Nat} (n : Nat) (ob : Rec) (hf : X_step_l19 NF n ob = some res) : Runs C B22 0 0 19 [vr a, vn] [] (top, (a, 6, ob) :: H) (Ans (some (.int res.1)) (top, (a, 6, res.2) :: H)) := by
  induction n generalizing ob with
  | zero => cases (show (none : Option (Int32 × Rec)) = some res from hf)
  | succ n ih => exact X_step_w19_p (X_step_l19 NF n) (fun ob h => ih _ h) ob hf
def X_step (NF : Nat) (ob : Rec) : Option (Int32 × Rec) :=
  if (gI ob 4) = (0 : Int32) then
    if (gI ob 5) = (0 : Int32) then
      some ((-5 : Int32), ob)
    else
      X_step_l19 NF NF ob
  else
    some ((-1 : Int32), ob)
set_option maxRecDepth 65536 in
set_option maxHeartbeats 4000000 in
theorem X_step_p {C : Ctx} {top : Nat} {a : Nat} {H : List (Nat × Nat × Rec)} {res : Int32 × Rec} {NF : Nat} (ob : Rec) (hf : X_step NF ob = some res) : Runs C B22 0 0 0 [vr a, vn] [] (top, (a, 6, ob) :: H) (Ans (some (.int res.1)) (top, (a, 6, res.2) :: H)) := by
  delta X_step at hf
  refine Runs.aloadN d22_0 rfl <| Runs.getI d22_1 w34 fS_4 <| ?_
  refine ite_el hf (fun hc9 hf => ?_) (fun hc9 hf => ?_)
  · refine Runs.ifY (pc' := 9) d22_4 (teq hc9).1 (by decide) <| ?_
    refine Runs.aloadN d22_9 rfl <| Runs.getI d22_10 w36 fS_5 <| ?_
    refine ite_el hf (fun hc10 hf => ?_) (fun hc10 hf => ?_)
    · refine Runs.ifN d22_13 (teq hc10).2 <| ?_
      obtain rfl := Option.some.inj hf
      exact Runs.bipush d22_16 cb_m5 <| Runs.retI d22_18 rfl ⟨by decide, by decide⟩ ⟨rfl, rfl⟩
    · exact Runs.ifY (pc' := 19) d22_13 (feq hc10).2 (by decide) <| X_step_l19_p NF ob hf
  · refine Runs.ifN d22_4 (feq hc9).1 <| ?_
    obtain rfl := Option.some.inj hf
    exact Runs.iconst d22_7 ci_m1 <| Runs.retI d22_8 rfl ⟨by decide, by decide⟩ ⟨rfl, rfl⟩
theorem X_step_pay {C : Ctx} {top : Nat} {a : Nat} {H : List (Nat × Nat × Rec)} {res : Int32 × Rec} {NF : Nat} {ob : Rec} (hf : X_step NF ob = some res) : Pays C B22 [.ref a] (top, (a, 6, ob) :: H) (Ans (some (.int res.1)) (top, (a, 6, res.2) :: H)) :=
  Pays.of pnK (Nat.le_of_ble_eq_true rfl) (P := [vr a, vn]) 1 rfl (X_step_p ob hf)
def X_legState (ob : Rec) (i1 : Int32) : Option (Int32) :=
  (X_validLeg ob i1).bind fun r1 =>
  if r1 = (0 : Int32) then
    some (-1 : Int32)
  else
    chk (2 : Int32) i1 <|
    some (gA ob 2 i1)
set_option maxRecDepth 65536 in
set_option maxHeartbeats 4000000 in
theorem X_legState_p {C : Ctx} {top : Nat} {a : Nat} {H : List (Nat × Nat × Rec)} {ob : Rec} {res : Int32} (i1 : Int32) (hf : X_legState ob i1 = some res) : Runs C B14 0 0 0 [vr a, vi i1] [] (top, (a, 6, ob) :: H) (Ans (some (.int res)) (top, (a, 6, ob) :: H)) := by
  delta X_legState at hf
  refine Runs.aloadN d14_0 rfl <| Runs.iloadN d14_1 rfl <| ?_
  refine bind_el hf fun r1 hg2 hf => ?_
  refine Runs.callP (N := B8) (W := 0) (as := [.int i1]) (S' := []) d14_2 w68 w69 w70 rfl cw8 ar8 rk14_8_0 (by decide) rfl rfl (X_validLeg_pay hg2) <| ans1 <| ?_
  refine ite_el hf (fun hc3 hf => ?_) (fun hc3 hf => ?_)
  · refine Runs.ifN d14_5 (teq hc3).2 <| ?_
    obtain rfl := Option.some.inj hf
    exact Runs.iconst d14_8 ci_m1 <| Runs.retI d14_9 rfl ⟨by decide, by decide⟩ ⟨rfl, rfl⟩
  · refine Runs.ifY (pc' := 10) d14_5 (feq hc3).2 (by decide) <| ?_
    refine Runs.aloadN d14_10 rfl <| Runs.getA d14_11 fA_2 w14 (by decide) <| Runs.iloadN d14_14 rfl <| ?_
    refine chk_el hf fun hi4 hf => ?_
    obtain rfl := Option.some.inj hf
    exact Runs.ialoadA d14_15 fA_2 (by decide) hi4 <| Runs.retI d14_16 rfl ⟨by decide, by decide⟩ ⟨rfl, rfl⟩
theorem X_legState_pay {C : Ctx} {top : Nat} {a : Nat} {H : List (Nat × Nat × Rec)} {ob : Rec} {res : Int32} {i1 : Int32} (hf : X_legState ob i1 = some res) : Pays C B14 [.ref a, .int i1] (top, (a, 6, ob) :: H) (Ans (some (.int res)) (top, (a, 6, ob) :: H)) :=
  Pays.of pnK (Nat.le_of_ble_eq_true rfl) (P := [vr a, vi i1]) 0 rfl (X_legState_p i1 hf)
def X_ackedValue (ob : Rec) (i1 : Int32) : Option (Int32) :=
  (X_validBlock ob i1).bind fun r1 =>
  if r1 = (0 : Int32) then
    some (-1 : Int32)
  else
    chk (32 : Int32) i1 <|
    some (gA ob 1 i1)
set_option maxRecDepth 65536 in
set_option maxHeartbeats 4000000 in
theorem X_ackedValue_p {C : Ctx} {top : Nat} {a : Nat} {H : List (Nat × Nat × Rec)} {ob : Rec} {res : Int32} (i1 : Int32) (hf : X_ackedValue ob i1 = some res) : Runs C B17 0 0 0 [vr a, vi i1] [] (top, (a, 6, ob) :: H) (Ans (some (.int res)) (top, (a, 6, ob) :: H)) := by
  delta X_ackedValue at hf
  refine Runs.aloadN d17_0 rfl <| Runs.iloadN d17_1 rfl <| ?_
  refine bind_el hf fun r1 hg2 hf => ?_
  refine Runs.callP (N := B9) (W := 0) (as := [.int i1]) (S' := []) d17_2 w72 w73 w74 rfl cw9 ar9 rk17_9_0 (by decide) rfl rfl (X_validBlock_pay hg2) <| ans1 <| ?_
  refine ite_el hf (fun hc3 hf => ?_) (fun hc3 hf => ?_)
  · refine Runs.ifN d17_5 (teq hc3).2 <| ?_
    obtain rfl := Option.some.inj hf
    exact Runs.iconst d17_8 ci_m1 <| Runs.retI d17_9 rfl ⟨by decide, by decide⟩ ⟨rfl, rfl⟩
  · refine Runs.ifY (pc' := 10) d17_5 (feq hc3).2 (by decide) <| ?_
    refine Runs.aloadN d17_10 rfl <| Runs.getA d17_11 fA_1 w12 (by decide) <| Runs.iloadN d17_14 rfl <| ?_
    refine chk_el hf fun hi4 hf => ?_
    obtain rfl := Option.some.inj hf
    exact Runs.ialoadA d17_15 fA_1 (by decide) hi4 <| Runs.retI d17_16 rfl ⟨by decide, by decide⟩ ⟨rfl, rfl⟩
theorem X_ackedValue_pay {C : Ctx} {top : Nat} {a : Nat} {H : List (Nat × Nat × Rec)} {ob : Rec} {res : Int32} {i1 : Int32} (hf : X_ackedValue ob i1 = some res) : Pays C B17 [.ref a, .int i1] (top, (a, 6, ob) :: H) (Ans (some (.int res)) (top, (a, 6, ob) :: H)) :=
  Pays.of pnK (Nat.le_of_ble_eq_true rfl) (P := [vr a, vi i1]) 0 rfl (X_ackedValue_p i1 hf)
def X_peek (ob : Rec) (i1 : Int32) (i2 : Int32) : Option (Int32) :=
  (X_validLeg ob i1).bind fun r1 =>
  if r1 = (0 : Int32) then
    some (-1 : Int32)
  else
    (X_validBlock ob i2).bind fun r4 =>
    if r4 = (0 : Int32) then
      some (-1 : Int32)
    else
      chk (64 : Int32) ((i1 * (32 : Int32)) + i2) <|
      some (gA ob 0 ((i1 * (32 : Int32)) + i2))
set_option maxRecDepth 65536 in
set_option maxHeartbeats 4000000 in
theorem X_peek_p {C : Ctx} {top : Nat} {a : Nat} {H : List (Nat × Nat × Rec)} {ob : Rec} {res : Int32} (i1 : Int32) (i2 : Int32) (hf : X_peek ob i1 i2 = some res) : Runs C B16 0 0 0 [vr a, vi i1, vi i2] [] (top, (a, 6, ob) :: H) (Ans (some (.int res)) (top, (a, 6, ob) :: H)) := by
  delta X_peek at hf
  refine Runs.aloadN d16_0 rfl <| Runs.iloadN d16_1 rfl <| ?_
  refine bind_el hf fun r1 hg2 hf => ?_
  refine Runs.callP (N := B8) (W := 0) (as := [.int i1]) (S' := []) d16_2 w68 w69 w70 rfl cw8 ar8 rk16_8_0 (by decide) rfl rfl (X_validLeg_pay hg2) <| ans1 <| ?_
  refine ite_el hf (fun hc3 hf => ?_) (fun hc3 hf => ?_)
  · refine Runs.ifY (pc' := 16) d16_5 (teq hc3).1 (by decide) <| ?_
    obtain rfl := Option.some.inj hf
    exact Runs.iconst d16_16 ci_m1 <| Runs.retI d16_17 rfl ⟨by decide, by decide⟩ ⟨rfl, rfl⟩
  · refine Runs.ifN d16_5 (feq hc3).1 <| ?_
    refine Runs.aloadN d16_8 rfl <| Runs.iloadN d16_9 rfl <| ?_
    refine bind_el hf fun r4 hg5 hf => ?_
    refine Runs.callP (N := B9) (W := 0) (as := [.int i2]) (S' := []) d16_10 w72 w73 w74 rfl cw9 ar9 rk16_9_0 (by decide) rfl rfl (X_validBlock_pay hg5) <| ans1 <| ?_
    refine ite_el hf (fun hc6 hf => ?_) (fun hc6 hf => ?_)
    · refine Runs.ifN d16_13 (teq hc6).2 <| ?_
      obtain rfl := Option.some.inj hf
      exact Runs.iconst d16_16 ci_m1 <| Runs.retI d16_17 rfl ⟨by decide, by decide⟩ ⟨rfl, rfl⟩
    · refine Runs.ifY (pc' := 18) d16_13 (feq hc6).2 (by decide) <| ?_
      refine Runs.aloadN d16_18 rfl <| Runs.getA d16_19 fA_0 w10 (by decide) <| Runs.iloadN d16_22 rfl <| Runs.bipush d16_23 cb_32 <| Runs.imul d16_25 <| Runs.iloadN d16_26 rfl <| Runs.iadd d16_27 <| ?_
      refine chk_el hf fun hi7 hf => ?_
      obtain rfl := Option.some.inj hf
      exact Runs.ialoadA d16_28 fA_0 (by decide) hi7 <| Runs.retI d16_29 rfl ⟨by decide, by decide⟩ ⟨rfl, rfl⟩
theorem X_peek_pay {C : Ctx} {top : Nat} {a : Nat} {H : List (Nat × Nat × Rec)} {ob : Rec} {res : Int32} {i1 : Int32} {i2 : Int32} (hf : X_peek ob i1 i2 = some res) : Pays C B16 [.ref a, .int i1, .int i2] (top, (a, 6, ob) :: H) (Ans (some (.int res)) (top, (a, 6, ob) :: H)) :=
  Pays.of pnK (Nat.le_of_ble_eq_true rfl) (P := [vr a, vi i1, vi i2]) 0 rfl (X_peek_p i1 i2 hf)
def L_pack_b36 (NF : Nat) (ob : Rec) (k5 : Int32 → Int64 → Int32 → Option (Int64)) (i1 : Int32) (l2 : Int64) (i4 : Int32) (i5 : Int32) : Option (Int64) :=
  if i5 < (0 : Int32) then
    some (-1 : Int64)
  else
    if (30 : Int32) < i5 then
      some (-1 : Int64)
    else
      k5 i1 (l2 ||| (i5.toInt64 <<< (((5 : Int32) * i4) &&& 0x3f).toInt64)) (i4 + (1 : Int32))
set_option maxRecDepth 65536 in
set_option maxHeartbeats 4000000 in
theorem L_pack_b36_p {C : Ctx} {top : Nat} {a : Nat} {H : List (Nat × Nat × Rec)} {ob : Rec} {res : Int64} {NF : Nat} (k5 : Int32 → Int64 → Int32 → Option (Int64)) (hk5 : ∀ (i1 : Int32) (l2 : Int64) (i4 : Int32), k5 i1 l2 i4 = some res → Runs C B15 0 0 5 [vr a, vi i1, vl l2, v2, vi i4, vn] [] (top, (a, 6, ob) :: H) (Ans (some (.long res)) (top, (a, 6, ob) :: H))) (i1 : Int32) (l2 : Int64) (i4 : Int32) (i5 : Int32) (hf : L_pack_b36 NF ob k5 i1 l2 i4 i5 = some res) : Runs C B15 0 0 36 [vr a, vi i1, vl l2, v2, vi i4, vi i5] [] (top, (a, 6, ob) :: H) (Ans (some (.long res)) (top, (a, 6, ob) :: H)) := by
  delta L_pack_b36 at hf
  refine Runs.iload d15_36 rfl <| ?_
  refine ite_el hf (fun hc7 hf => ?_) (fun hc7 hf => ?_)
  · refine Runs.ifY (pc' := 48) d15_38 (tlt hc7).1 (by decide) <| ?_
    obtain rfl := Option.some.inj hf
    exact Runs.ldc2 d15_48 w182 <| Runs.retJ d15_51 rfl ⟨by decide, by decide⟩ ⟨rfl, rfl⟩
  · refine Runs.ifN d15_38 (flt hc7).1 <| ?_
    refine Runs.iload d15_41 rfl <| Runs.bipush d15_43 cb_30 <| ?_
    refine ite_el hf (fun hc8 hf => ?_) (fun hc8 hf => ?_)
    · refine Runs.icN d15_45 (tlt hc8).2.2.2 <| ?_
      obtain rfl := Option.some.inj hf
      exact Runs.ldc2 d15_48 w182 <| Runs.retJ d15_51 rfl ⟨by decide, by decide⟩ ⟨rfl, rfl⟩
    · refine Runs.icY (pc' := 52) d15_45 (flt hc8).2.2.2 (by decide) <| ?_
      exact Runs.lloadN d15_52 rfl <| Runs.iload d15_53 rfl <| Runs.i2l d15_55 <| Runs.iconst d15_56 ci_5 <| Runs.iload d15_57 rfl <| Runs.imul d15_59 <| Runs.lshl d15_60 <| Runs.lor d15_61 <| Runs.lstoreN (P' := [vr a, vi i1, vl (l2 ||| (i5.toInt64 <<< (((5 : Int32) * i4) &&& 0x3f).toInt64)), v2, vi i4, vi i5]) d15_62 (by decide) rfl <| Runs.iinc (P' := [vr a, vi i1, vl (l2 ||| (i5.toInt64 <<< (((5 : Int32) * i4) &&& 0x3f).toInt64)), v2, vi (i4 + (1 : Int32)), vi i5]) d15_63 ci_1 rfl (by decide) rfl <| Runs.goto (pc' := 5) d15_66 (by decide) <| Runs.forget [true, true, true, true, true, false] rfl <| hk5 i1 (l2 ||| (i5.toInt64 <<< (((5 : Int32) * i4) &&& 0x3f).toInt64)) (i4 + (1 : Int32)) hf
def L_pack_w5 (NF : Nat) (ob : Rec) (k5 : Int32 → Int64 → Int32 → Option (Int64)) (i1 : Int32) (l2 : Int64) (i4 : Int32) : Option (Int64) :=
  if i4 < (12 : Int32) then
    if i1 < (0 : Int32) then
      (X_ackedValue ob i4).bind fun r3 =>
      L_pack_b36 NF ob k5 i1 l2 i4 r3
    else
      (X_peek ob i1 i4).bind fun r5 =>
      L_pack_b36 NF ob k5 i1 l2 i4 r5
  else
    some l2
def L_pack_l5 (NF : Nat) (ob : Rec) : Nat → Int32 → Int64 → Int32 → Option (Int64)
  | 0, _, _, _ => none
  | n + 1, i1, l2, i4 => L_pack_w5 NF ob (L_pack_l5 NF ob n) i1 l2 i4
set_option maxRecDepth 65536 in
set_option maxHeartbeats 4000000 in
theorem L_pack_w5_p {C : Ctx} {top : Nat} {a : Nat} {H : List (Nat × Nat × Rec)} {ob : Rec} {res : Int64} {NF : Nat} (k5 : Int32 → Int64 → Int32 → Option (Int64)) (hk5 : ∀ (i1 : Int32) (l2 : Int64) (i4 : Int32), k5 i1 l2 i4 = some res → Runs C B15 0 0 5 [vr a, vi i1, vl l2, v2, vi i4, vn] [] (top, (a, 6, ob) :: H) (Ans (some (.long res)) (top, (a, 6, ob) :: H))) (i1 : Int32) (l2 : Int64) (i4 : Int32) (hf : L_pack_w5 NF ob k5 i1 l2 i4 = some res) : Runs C B15 0 0 5 [vr a, vi i1, vl l2, v2, vi i4, vn] [] (top, (a, 6, ob) :: H) (Ans (some (.long res)) (top, (a, 6, ob) :: H)) := by
  delta L_pack_w5 at hf
  refine Runs.iload d15_5 rfl <| Runs.bipush d15_7 cb_12 <| ?_
  refine ite_el hf (fun hc1 hf => ?_) (fun hc1 hf => ?_)
  · refine Runs.icN d15_9 (tlt hc1).2.1 <| ?_
    refine Runs.iloadN d15_12 rfl <| ?_
    refine ite_el hf (fun hc2 hf => ?_) (fun hc2 hf => ?_)
    · refine Runs.ifN d15_13 (tlt hc2).2.1 <| ?_
      refine Runs.aloadN d15_16 rfl <| Runs.iload d15_17 rfl <| ?_
      refine bind_el hf fun r3 hg4 hf => ?_
      exact Runs.callV (N := B17) (W := 0) (as := [.int i4]) (S' := []) d15_19 w108 w109 w110 w111 cw17 ar17 rk15_17_0 (by decide) rfl rfl (X_ackedValue_pay hg4) <| ans1 <| Runs.istore (P' := [vr a, vi i1, vl l2, v2, vi i4, vi r3]) d15_22 (by decide) rfl <| Runs.goto (pc' := 36) d15_24 (by decide) <| L_pack_b36_p k5 hk5 i1 l2 i4 r3 hf
    · refine Runs.ifY (pc' := 27) d15_13 (flt hc2).2.1 (by decide) <| ?_
      refine Runs.aloadN d15_27 rfl <| Runs.iloadN d15_28 rfl <| Runs.iload d15_29 rfl <| ?_
      refine bind_el hf fun r5 hg6 hf => ?_
      exact Runs.callV (N := B16) (W := 0) (as := [.int i1, .int i4]) (S' := []) d15_31 w103 w104 w105 w106 cw16 ar16 rk15_16_0 (by decide) rfl rfl (X_peek_pay hg6) <| ans1 <| Runs.istore (P' := [vr a, vi i1, vl l2, v2, vi i4, vi r5]) d15_34 (by decide) rfl <| L_pack_b36_p k5 hk5 i1 l2 i4 r5 hf
  · refine Runs.icY (pc' := 69) d15_9 (flt hc1).2.1 (by decide) <| ?_
    obtain rfl := Option.some.inj hf
    exact Runs.lloadN d15_69 rfl <| Runs.retJ d15_70 rfl ⟨by decide, by decide⟩ ⟨rfl, rfl⟩
theorem L_pack_l5_p {C : Ctx} {top : Nat} {a : Nat} {H : List (Nat × Nat × Rec)} {ob : Rec} {res : Int64} {NF : Nat} (n : Nat) (i1 : Int32) (l2 : Int64) (i4 : Int32) (hf : L_pack_l5 NF ob n i1 l2 i4 = some res) : Runs C B15 0 0 5 [vr a, vi i1, vl l2, v2, vi i4, vn] [] (top, (a, 6, ob) :: H) (Ans (some (.long res)) (top, (a, 6, ob) :: H)) := by
  induction n generalizing i1 l2 i4 with
  | zero => cases (show (none : Option (Int64)) = some res from hf)
  | succ n ih => exact L_pack_w5_p (L_pack_l5 NF ob n) (fun i1 l2 i4 h => ih _ _ _ h) i1 l2 i4 hf
def L_pack (NF : Nat) (ob : Rec) (i1 : Int32) : Option (Int64) :=
  L_pack_l5 NF ob NF i1 (0 : Int64) (0 : Int32)
set_option maxRecDepth 65536 in
set_option maxHeartbeats 4000000 in
theorem L_pack_p {C : Ctx} {top : Nat} {a : Nat} {H : List (Nat × Nat × Rec)} {ob : Rec} {res : Int64} {NF : Nat} (i1 : Int32) (hf : L_pack NF ob i1 = some res) : Runs C B15 0 0 0 [vr a, vi i1, vn, vn, vn, vn] [] (top, (a, 6, ob) :: H) (Ans (some (.long res)) (top, (a, 6, ob) :: H)) := by
  delta L_pack at hf
  exact Runs.lconst d15_0 cl_0 <| Runs.lstoreN (P' := [vr a, vi i1, vl (0 : Int64), v2, vn, vn]) d15_1 (by decide) rfl <| Runs.iconst d15_2 ci_0 <| Runs.istore (P' := [vr a, vi i1, vl (0 : Int64), v2, vi (0 : Int32), vn]) d15_3 (by decide) rfl <| L_pack_l5_p NF i1 (0 : Int64) (0 : Int32) hf
theorem L_pack_pay {C : Ctx} {top : Nat} {a : Nat} {H : List (Nat × Nat × Rec)} {ob : Rec} {res : Int64} {NF : Nat} {i1 : Int32} (hf : L_pack NF ob i1 = some res) : Pays C B15 [.ref a, .int i1] (top, (a, 6, ob) :: H) (Ans (some (.long res)) (top, (a, 6, ob) :: H)) :=
  Pays.of pnL (Nat.le_of_ble_eq_true rfl) (P := [vr a, vi i1, vn, vn, vn, vn]) 4 rfl (L_pack_p i1 hf)
def L_get (l0 : Int64) (i2 : Int32) : Option (Int32) :=
  some (((l0.toUInt64 >>> (((5 : Int32) * i2) &&& 0x3f).toInt64.toUInt64).toInt64) &&& (31 : Int64)).toInt32
set_option maxRecDepth 65536 in
set_option maxHeartbeats 4000000 in
theorem L_get_p {C : Ctx} {G : AH} {res : Int32} (l0 : Int64) (i2 : Int32) (hf : L_get l0 i2 = some res) : Runs C B20 0 0 0 [vl l0, v2, vi i2] [] G (Ans (some (.int res)) G) := by
  delta L_get at hf
  obtain rfl := Option.some.inj hf
  exact Runs.lloadN d20_0 rfl <| Runs.iconst d20_1 ci_5 <| Runs.iloadN d20_2 rfl <| Runs.imul d20_3 <| Runs.lushr d20_4 <| Runs.ldc2 d20_5 w125 <| Runs.land d20_8 <| Runs.l2i d20_9 <| Runs.retI d20_10 rfl ⟨by decide, by decide⟩ ⟨rfl, rfl⟩
theorem L_get_pay {C : Ctx} {G : AH} {res : Int32} {l0 : Int64} {i2 : Int32} (hf : L_get l0 i2 = some res) : Pays C B20 [.long l0, .int i2] G (Ans (some (.int res)) G) :=
  Pays.of pnL (Nat.le_of_ble_eq_true rfl) (P := [vl l0, v2, vi i2]) 0 rfl (L_get_p l0 i2 hf)
def X_read (ob : Rec) (i1 : Int32) : Option (Int32) :=
  if (gI ob 4) = (0 : Int32) then
    (X_validBlock ob i1).bind fun r2 =>
    if r2 = (0 : Int32) then
      some (-1 : Int32)
    else
      chk (2 : Int32) (0 : Int32) <|
      if (gA ob 2 (0 : Int32)) = (0 : Int32) then
        chk (64 : Int32) (((0 : Int32) * (32 : Int32)) + i1) <|
        some (gA ob 0 (((0 : Int32) * (32 : Int32)) + i1))
      else
        chk (64 : Int32) (((1 : Int32) * (32 : Int32)) + i1) <|
        some (gA ob 0 (((1 : Int32) * (32 : Int32)) + i1))
  else
    some (-1 : Int32)
set_option maxRecDepth 65536 in
set_option maxHeartbeats 4000000 in
theorem X_read_p {C : Ctx} {top : Nat} {a : Nat} {H : List (Nat × Nat × Rec)} {ob : Rec} {res : Int32} (i1 : Int32) (hf : X_read ob i1 = some res) : Runs C B21 0 0 0 [vr a, vi i1, vn] [] (top, (a, 6, ob) :: H) (Ans (some (.int res)) (top, (a, 6, ob) :: H)) := by
  delta X_read at hf
  refine Runs.aloadN d21_0 rfl <| Runs.getI d21_1 w34 fS_4 <| ?_
  refine ite_el hf (fun hc1 hf => ?_) (fun hc1 hf => ?_)
  · refine Runs.ifN d21_4 (teq hc1).2 <| ?_
    refine Runs.aloadN d21_7 rfl <| Runs.iloadN d21_8 rfl <| ?_
    refine bind_el hf fun r2 hg3 hf => ?_
    refine Runs.callP (N := B9) (W := 0) (as := [.int i1]) (S' := []) d21_9 w72 w73 w74 rfl cw9 ar9 rk21_9_0 (by decide) rfl rfl (X_validBlock_pay hg3) <| ans1 <| ?_
    refine ite_el hf (fun hc4 hf => ?_) (fun hc4 hf => ?_)
    · refine Runs.ifN d21_12 (teq hc4).2 <| ?_
      obtain rfl := Option.some.inj hf
      exact Runs.iconst d21_15 ci_m1 <| Runs.retI d21_16 rfl ⟨by decide, by decide⟩ ⟨rfl, rfl⟩
    · refine Runs.ifY (pc' := 17) d21_12 (feq hc4).2 (by decide) <| ?_
      refine Runs.aloadN d21_17 rfl <| Runs.getA d21_18 fA_2 w14 (by decide) <| Runs.iconst d21_21 ci_0 <| ?_
      refine chk_el hf fun hi5 hf => ?_
      refine Runs.ialoadA d21_22 fA_2 (by decide) hi5 <| ?_
      refine ite_el hf (fun hc6 hf => ?_) (fun hc6 hf => ?_)
      · refine Runs.ifN d21_23 (teq hc6).2 <| ?_
        refine Runs.iconst d21_26 ci_0 <| Runs.goto (pc' := 31) d21_27 (by decide) <| Runs.istoreN (P' := [vr a, vi i1, vi (0 : Int32)]) d21_31 (by decide) rfl <| Runs.aloadN d21_32 rfl <| Runs.getA d21_33 fA_0 w10 (by decide) <| Runs.iloadN d21_36 rfl <| Runs.bipush d21_37 cb_32 <| Runs.imul d21_39 <| Runs.iloadN d21_40 rfl <| Runs.iadd d21_41 <| ?_
        refine chk_el hf fun hi7 hf => ?_
        obtain rfl := Option.some.inj hf
        exact Runs.ialoadA d21_42 fA_0 (by decide) hi7 <| Runs.retI d21_43 rfl ⟨by decide, by decide⟩ ⟨rfl, rfl⟩
      · refine Runs.ifY (pc' := 30) d21_23 (feq hc6).2 (by decide) <| ?_
        refine Runs.iconst d21_30 ci_1 <| Runs.istoreN (P' := [vr a, vi i1, vi (1 : Int32)]) d21_31 (by decide) rfl <| Runs.aloadN d21_32 rfl <| Runs.getA d21_33 fA_0 w10 (by decide) <| Runs.iloadN d21_36 rfl <| Runs.bipush d21_37 cb_32 <| Runs.imul d21_39 <| Runs.iloadN d21_40 rfl <| Runs.iadd d21_41 <| ?_
        refine chk_el hf fun hi8 hf => ?_
        obtain rfl := Option.some.inj hf
        exact Runs.ialoadA d21_42 fA_0 (by decide) hi8 <| Runs.retI d21_43 rfl ⟨by decide, by decide⟩ ⟨rfl, rfl⟩
  · refine Runs.ifY (pc' := 15) d21_4 (feq hc1).2 (by decide) <| ?_
    obtain rfl := Option.some.inj hf
    exact Runs.iconst d21_15 ci_m1 <| Runs.retI d21_16 rfl ⟨by decide, by decide⟩ ⟨rfl, rfl⟩
theorem X_read_pay {C : Ctx} {top : Nat} {a : Nat} {H : List (Nat × Nat × Rec)} {ob : Rec} {res : Int32} {i1 : Int32} (hf : X_read ob i1 = some res) : Pays C B21 [.ref a, .int i1] (top, (a, 6, ob) :: H) (Ans (some (.int res)) (top, (a, 6, ob) :: H)) :=
  Pays.of pnK (Nat.le_of_ble_eq_true rfl) (P := [vr a, vi i1, vn]) 1 rfl (X_read_p i1 hf)
def L_relation_b326 (NF : Nat) (k216 : Rec → Int64 → Int64 → Int64 → Int32 → Int32 → Int32 → Option (Int32 × Rec)) (k297 : Rec → Int64 → Int64 → Int64 → Int32 → Int32 → Int32 → Int32 → Option (Int32 × Rec)) (ob : Rec) (l7 : Int64) (l13 : Int64) (l15 : Int64) (i17 : Int32) (i18 : Int32) (i19 : Int32) (i20 : Int32) (t0 : Int32) : Option (Int32 × Rec) :=
  (X_read ob i20).bind fun r72 =>
  if r72 = t0 then
    k297 ob l7 l13 l15 i17 i18 i19 (i20 + (1 : Int32))
  else
    some ((0 : Int32), ob)
set_option maxRecDepth 65536 in
set_option maxHeartbeats 4000000 in
theorem L_relation_b326_p {C : Ctx} {top : Nat} {a : Nat} {H : List (Nat × Nat × Rec)} {res : Int32 × Rec} {NF : Nat} (k216 : Rec → Int64 → Int64 → Int64 → Int32 → Int32 → Int32 → Option (Int32 × Rec)) (hk216 : ∀ (ob : Rec) (l7 : Int64) (l13 : Int64) (l15 : Int64) (i17 : Int32) (i18 : Int32) (i19 : Int32), k216 ob l7 l13 l15 i17 i18 i19 = some res → Runs C B11 0 0 216 [vr a, vn, vn, vn, vn, vn, vn, vl l7, v2, vn, vn, vn, vn, vl l13, v2, vl l15, v2, vi i17, vi i18, vi i19, vn, vn] [] (top, (a, 6, ob) :: H) (Ans (some (.int res.1)) (top, (a, 6, res.2) :: H))) (k297 : Rec → Int64 → Int64 → Int64 → Int32 → Int32 → Int32 → Int32 → Option (Int32 × Rec)) (hk297 : ∀ (ob : Rec) (l7 : Int64) (l13 : Int64) (l15 : Int64) (i17 : Int32) (i18 : Int32) (i19 : Int32) (i20 : Int32), k297 ob l7 l13 l15 i17 i18 i19 i20 = some res → Runs C B11 0 0 297 [vr a, vn, vn, vn, vn, vn, vn, vl l7, v2, vn, vn, vn, vn, vl l13, v2, vl l15, v2, vi i17, vi i18, vi i19, vi i20, vn] [] (top, (a, 6, ob) :: H) (Ans (some (.int res.1)) (top, (a, 6, res.2) :: H))) (ob : Rec) (l7 : Int64) (l13 : Int64) (l15 : Int64) (i17 : Int32) (i18 : Int32) (i19 : Int32) (i20 : Int32) (t0 : Int32) (hf : L_relation_b326 NF k216 k297 ob l7 l13 l15 i17 i18 i19 i20 t0 = some res) : Runs C B11 0 0 326 [vr a, vn, vn, vn, vn, vn, vn, vl l7, v2, vn, vn, vn, vn, vl l13, v2, vl l15, v2, vi i17, vi i18, vi i19, vi i20, vn] [.int t0] (top, (a, 6, ob) :: H) (Ans (some (.int res.1)) (top, (a, 6, res.2) :: H)) := by
  delta L_relation_b326 at hf
  refine Runs.istore (P' := [vr a, vn, vn, vn, vn, vn, vn, vl l7, v2, vn, vn, vn, vn, vl l13, v2, vl l15, v2, vi i17, vi i18, vi i19, vi i20, vi t0]) d11_326 (by decide) rfl <| Runs.aloadN d11_328 rfl <| Runs.iload d11_329 rfl <| ?_
  refine bind_el hf fun r72 hg73 hf => ?_
  refine Runs.callV (N := B21) (W := 0) (as := [.int i20]) (S' := []) d11_331 w126 w127 w128 w129 cw21 ar21 rk11_21_0 (by decide) rfl rfl (X_read_pay hg73) <| ans1 <| Runs.iload d11_334 rfl <| ?_
  refine ite_el hf (fun hc74 hf => ?_) (fun hc74 hf => ?_)
  · refine Runs.icY (pc' := 341) d11_336 (teq hc74).1 (by decide) <| ?_
    exact Runs.iinc (P' := [vr a, vn, vn, vn, vn, vn, vn, vl l7, v2, vn, vn, vn, vn, vl l13, v2, vl l15, v2, vi i17, vi i18, vi i19, vi (i20 + (1 : Int32)), vi t0]) d11_341 ci_1 rfl (by decide) rfl <| Runs.goto (pc' := 297) d11_344 (by decide) <| Runs.forget [true, false, false, false, false, false, false, true, true, false, false, false, false, true, true, true, true, true, true, true, true, false] rfl <| hk297 ob l7 l13 l15 i17 i18 i19 (i20 + (1 : Int32)) hf
  · refine Runs.icN d11_336 (feq hc74).1 <| ?_
    obtain rfl := Option.some.inj hf
    exact Runs.iconst d11_339 ci_0 <| Runs.retZ (y := (0 : Int32)) d11_340 rfl ⟨by decide, by decide⟩ rfl ⟨rfl, rfl⟩
def L_relation_w297 (NF : Nat) (k216 : Rec → Int64 → Int64 → Int64 → Int32 → Int32 → Int32 → Option (Int32 × Rec)) (k297 : Rec → Int64 → Int64 → Int64 → Int32 → Int32 → Int32 → Int32 → Option (Int32 × Rec)) (ob : Rec) (l7 : Int64) (l13 : Int64) (l15 : Int64) (i17 : Int32) (i18 : Int32) (i19 : Int32) (i20 : Int32) : Option (Int32 × Rec) :=
  if i20 < (12 : Int32) then
    if i17 = (0 : Int32) then
      (L_get l13 i20).bind fun r63 =>
      L_relation_b326 NF k216 k297 ob l7 l13 l15 i17 i18 i19 i20 r63
    else
      (L_get l15 i20).bind fun r65 =>
      L_relation_b326 NF k216 k297 ob l7 l13 l15 i17 i18 i19 i20 r65
  else
    if i19 = (0 : Int32) then
      bind2 (X_resync NF ob) fun r68 q69 =>
      if r68 = (-4 : Int32) then
        k216 q69 l7 l13 l15 i17 i18 (i19 + (1 : Int32))
      else
        some ((0 : Int32), q69)
    else
      k216 ob l7 l13 l15 i17 i18 (i19 + (1 : Int32))
def L_relation_l297 (NF : Nat) (k216 : Rec → Int64 → Int64 → Int64 → Int32 → Int32 → Int32 → Option (Int32 × Rec)) : Nat → Rec → Int64 → Int64 → Int64 → Int32 → Int32 → Int32 → Int32 → Option (Int32 × Rec)
  | 0, _, _, _, _, _, _, _, _ => none
  | n + 1, ob, l7, l13, l15, i17, i18, i19, i20 => L_relation_w297 NF k216 (L_relation_l297 NF k216 n) ob l7 l13 l15 i17 i18 i19 i20
set_option maxRecDepth 65536 in
set_option maxHeartbeats 4000000 in
theorem L_relation_w297_p {C : Ctx} {top : Nat} {a : Nat} {H : List (Nat × Nat × Rec)} {res : Int32 × Rec} {NF : Nat} (k216 : Rec → Int64 → Int64 → Int64 → Int32 → Int32 → Int32 → Option (Int32 × Rec)) (hk216 : ∀ (ob : Rec) (l7 : Int64) (l13 : Int64) (l15 : Int64) (i17 : Int32) (i18 : Int32) (i19 : Int32), k216 ob l7 l13 l15 i17 i18 i19 = some res → Runs C B11 0 0 216 [vr a, vn, vn, vn, vn, vn, vn, vl l7, v2, vn, vn, vn, vn, vl l13, v2, vl l15, v2, vi i17, vi i18, vi i19, vn, vn] [] (top, (a, 6, ob) :: H) (Ans (some (.int res.1)) (top, (a, 6, res.2) :: H))) (k297 : Rec → Int64 → Int64 → Int64 → Int32 → Int32 → Int32 → Int32 → Option (Int32 × Rec)) (hk297 : ∀ (ob : Rec) (l7 : Int64) (l13 : Int64) (l15 : Int64) (i17 : Int32) (i18 : Int32) (i19 : Int32) (i20 : Int32), k297 ob l7 l13 l15 i17 i18 i19 i20 = some res → Runs C B11 0 0 297 [vr a, vn, vn, vn, vn, vn, vn, vl l7, v2, vn, vn, vn, vn, vl l13, v2, vl l15, v2, vi i17, vi i18, vi i19, vi i20, vn] [] (top, (a, 6, ob) :: H) (Ans (some (.int res.1)) (top, (a, 6, res.2) :: H))) (ob : Rec) (l7 : Int64) (l13 : Int64) (l15 : Int64) (i17 : Int32) (i18 : Int32) (i19 : Int32) (i20 : Int32) (hf : L_relation_w297 NF k216 k297 ob l7 l13 l15 i17 i18 i19 i20 = some res) : Runs C B11 0 0 297 [vr a, vn, vn, vn, vn, vn, vn, vl l7, v2, vn, vn, vn, vn, vl l13, v2, vl l15, v2, vi i17, vi i18, vi i19, vi i20, vn] [] (top, (a, 6, ob) :: H) (Ans (some (.int res.1)) (top, (a, 6, res.2) :: H)) := by
  delta L_relation_w297 at hf
  refine Runs.iload d11_297 rfl <| Runs.bipush d11_299 cb_12 <| ?_
  refine ite_el hf (fun hc61 hf => ?_) (fun hc61 hf => ?_)
  · refine Runs.icN d11_301 (tlt hc61).2.1 <| ?_
    refine Runs.iload d11_304 rfl <| ?_
    refine ite_el hf (fun hc62 hf => ?_) (fun hc62 hf => ?_)
    · refine Runs.ifN d11_306 (teq hc62).2 <| ?_
      refine Runs.lload d11_309 rfl <| Runs.iload d11_311 rfl <| ?_
      refine bind_el hf fun r63 hg64 hf => ?_
      exact Runs.callS (N := B20) (W := 0) (as := [.long l13, .int i20]) (S' := []) d11_313 w122 w123 cw20 ar20 rk11_20_0 (by decide) rfl rfl (L_get_pay hg64) <| ans1 <| Runs.goto (pc' := 326) d11_316 (by decide) <| L_relation_b326_p k216 hk216 k297 hk297 ob l7 l13 l15 i17 i18 i19 i20 r63 hf
    · refine Runs.ifY (pc' := 319) d11_306 (feq hc62).2 (by decide) <| ?_
      refine Runs.lload d11_319 rfl <| Runs.iload d11_321 rfl <| ?_
      refine bind_el hf fun r65 hg66 hf => ?_
      exact Runs.callS (N := B20) (W := 0) (as := [.long l15, .int i20]) (S' := []) d11_323 w122 w123 cw20 ar20 rk11_20_0 (by decide) rfl rfl (L_get_pay hg66) <| ans1 <| L_relation_b326_p k216 hk216 k297 hk297 ob l7 l13 l15 i17 i18 i19 i20 r65 hf
  · refine Runs.icY (pc' := 347) d11_301 (flt hc61).2.1 (by decide) <| ?_
    refine Runs.iload d11_347 rfl <| ?_
    refine ite_el hf (fun hc67 hf => ?_) (fun hc67 hf => ?_)
    · refine Runs.ifN d11_349 (teq hc67).2 <| ?_
      refine Runs.aloadN d11_352 rfl <| ?_
      refine bind2_el hf fun r68 q69 hg70 hf => ?_
      refine Runs.callV (N := B18) (W := 0) (as := []) (S' := []) d11_353 w113 w114 w115 w116 cw18 ar18 rk11_18_0 (by decide) rfl rfl (X_resync_pay hg70) <| ans1 <| Runs.bipush d11_356 cb_m4 <| ?_
      refine ite_el hf (fun hc71 hf => ?_) (fun hc71 hf => ?_)
      · refine Runs.icY (pc' := 363) d11_358 (teq hc71).1 (by decide) <| ?_
        exact Runs.iinc (P' := [vr a, vn, vn, vn, vn, vn, vn, vl l7, v2, vn, vn, vn, vn, vl l13, v2, vl l15, v2, vi i17, vi i18, vi (i19 + (1 : Int32)), vi i20, vn]) d11_363 ci_1 rfl (by decide) rfl <| Runs.goto (pc' := 216) d11_366 (by decide) <| Runs.forget [true, false, false, false, false, false, false, true, true, false, false, false, false, true, true, true, true, true, true, true, false, false] rfl <| hk216 q69 l7 l13 l15 i17 i18 (i19 + (1 : Int32)) hf
      · refine Runs.icN d11_358 (feq hc71).1 <| ?_
        obtain rfl := Option.some.inj hf
        exact Runs.iconst d11_361 ci_0 <| Runs.retZ (y := (0 : Int32)) d11_362 rfl ⟨by decide, by decide⟩ rfl ⟨rfl, rfl⟩
    · refine Runs.ifY (pc' := 363) d11_349 (feq hc67).2 (by decide) <| ?_
      exact Runs.iinc (P' := [vr a, vn, vn, vn, vn, vn, vn, vl l7, v2, vn, vn, vn, vn, vl l13, v2, vl l15, v2, vi i17, vi i18, vi (i19 + (1 : Int32)), vi i20, vn]) d11_363 ci_1 rfl (by decide) rfl <| Runs.goto (pc' := 216) d11_366 (by decide) <| Runs.forget [true, false, false, false, false, false, false, true, true, false, false, false, false, true, true, true, true, true, true, true, false, false] rfl <| hk216 ob l7 l13 l15 i17 i18 (i19 + (1 : Int32)) hf
theorem L_relation_l297_p {C : Ctx} {top : Nat} {a : Nat} {H : List (Nat × Nat × Rec)} {res : Int32 × Rec} {NF : Nat} (k216 : Rec → Int64 → Int64 → Int64 → Int32 → Int32 → Int32 → Option (Int32 × Rec)) (hk216 : ∀ (ob : Rec) (l7 : Int64) (l13 : Int64) (l15 : Int64) (i17 : Int32) (i18 : Int32) (i19 : Int32), k216 ob l7 l13 l15 i17 i18 i19 = some res → Runs C B11 0 0 216 [vr a, vn, vn, vn, vn, vn, vn, vl l7, v2, vn, vn, vn, vn, vl l13, v2, vl l15, v2, vi i17, vi i18, vi i19, vn, vn] [] (top, (a, 6, ob) :: H) (Ans (some (.int res.1)) (top, (a, 6, res.2) :: H))) (n : Nat) (ob : Rec) (l7 : Int64) (l13 : Int64) (l15 : Int64) (i17 : Int32) (i18 : Int32) (i19 : Int32) (i20 : Int32) (hf : L_relation_l297 NF k216 n ob l7 l13 l15 i17 i18 i19 i20 = some res) : Runs C B11 0 0 297 [vr a, vn, vn, vn, vn, vn, vn, vl l7, v2, vn, vn, vn, vn, vl l13, v2, vl l15, v2, vi i17, vi i18, vi i19, vi i20, vn] [] (top, (a, 6, ob) :: H) (Ans (some (.int res.1)) (top, (a, 6, res.2) :: H)) := by
  induction n generalizing ob l7 l13 l15 i17 i18 i19 i20 with
  | zero => cases (show (none : Option (Int32 × Rec)) = some res from hf)
  | succ n ih => exact L_relation_w297_p k216 hk216 (L_relation_l297 NF k216 n) (fun ob l7 l13 l15 i17 i18 i19 i20 h => ih _ _ _ _ _ _ _ _ h) ob l7 l13 l15 i17 i18 i19 i20 hf
def L_relation_w216 (NF : Nat) (k216 : Rec → Int64 → Int64 → Int64 → Int32 → Int32 → Int32 → Option (Int32 × Rec)) (ob : Rec) (l7 : Int64) (l13 : Int64) (l15 : Int64) (i17 : Int32) (i18 : Int32) (i19 : Int32) : Option (Int32 × Rec) :=
  if i19 < (2 : Int32) then
    (L_pack NF ob (0 : Int32)).bind fun r40 =>
    if r40 = l13 then
      (L_pack NF ob (1 : Int32)).bind fun r43 =>
      if r43 = l15 then
        (L_pack NF ob (-1 : Int32)).bind fun r46 =>
        if r46 = l7 then
          (X_legState ob (0 : Int32)).bind fun r49 =>
          if r49 = i17 then
            (X_legState ob (1 : Int32)).bind fun r52 =>
            if r52 = i18 then
              (X_isDown ob).bind fun r55 =>
              if r55 = (0 : Int32) then
                (X_pendingBlock ob).bind fun r58 =>
                if r58 = (-1 : Int32) then
                  L_relation_l297 NF k216 NF ob l7 l13 l15 i17 i18 i19 (0 : Int32)
                else
                  some ((0 : Int32), ob)
              else
                some ((0 : Int32), ob)
            else
              some ((0 : Int32), ob)
          else
            some ((0 : Int32), ob)
        else
          some ((0 : Int32), ob)
      else
        some ((0 : Int32), ob)
    else
      some ((0 : Int32), ob)
  else
    some ((1 : Int32), ob)
def L_relation_l216 (NF : Nat) : Nat → Rec → Int64 → Int64 → Int64 → Int32 → Int32 → Int32 → Option (Int32 × Rec)
  | 0, _, _, _, _, _, _, _ => none
  | n + 1, ob, l7, l13, l15, i17, i18, i19 => L_relation_w216 NF (L_relation_l216 NF n) ob l7 l13 l15 i17 i18 i19
set_option maxRecDepth 65536 in
set_option maxHeartbeats 4000000 in
theorem L_relation_w216_p {C : Ctx} {top : Nat} {a : Nat} {H : List (Nat × Nat × Rec)} {res : Int32 × Rec} {NF : Nat} (k216 : Rec → Int64 → Int64 → Int64 → Int32 → Int32 → Int32 → Option (Int32 × Rec)) (hk216 : ∀ (ob : Rec) (l7 : Int64) (l13 : Int64) (l15 : Int64) (i17 : Int32) (i18 : Int32) (i19 : Int32), k216 ob l7 l13 l15 i17 i18 i19 = some res → Runs C B11 0 0 216 [vr a, vn, vn, vn, vn, vn, vn, vl l7, v2, vn, vn, vn, vn, vl l13, v2, vl l15, v2, vi i17, vi i18, vi i19, vn, vn] [] (top, (a, 6, ob) :: H) (Ans (some (.int res.1)) (top, (a, 6, res.2) :: H))) (ob : Rec) (l7 : Int64) (l13 : Int64) (l15 : Int64) (i17 : Int32) (i18 : Int32) (i19 : Int32) (hf : L_relation_w216 NF k216 ob l7 l13 l15 i17 i18 i19 = some res) : Runs C B11 0 0 216 [vr a, vn, vn, vn, vn, vn, vn, vl l7, v2, vn, vn, vn, vn, vl l13, v2, vl l15, v2, vi i17, vi i18, vi i19, vn, vn] [] (top, (a, 6, ob) :: H) (Ans (some (.int res.1)) (top, (a, 6, res.2) :: H)) := by
  delta L_relation_w216 at hf
  refine Runs.iload d11_216 rfl <| Runs.iconst d11_218 ci_2 <| ?_
  refine ite_el hf (fun hc39 hf => ?_) (fun hc39 hf => ?_)
  · refine Runs.icN d11_219 (tlt hc39).2.1 <| ?_
    refine Runs.aloadN d11_222 rfl <| Runs.iconst d11_223 ci_0 <| ?_
    refine bind_el hf fun r40 hg41 hf => ?_
    refine Runs.callS (N := B15) (W := 0) (as := [.ref a, .int (0 : Int32)]) (S' := []) d11_224 w100 w101 cw15 ar15 rk11_15_0 (by decide) rfl rfl (L_pack_pay hg41) <| ans1 <| Runs.lload d11_227 rfl <| Runs.lcmp d11_229 <| ?_
    refine ite_el hf (fun hc42 hf => ?_) (fun hc42 hf => ?_)
    · refine Runs.ifN d11_230 (teq ((lw_eq _ _).mpr hc42)).2 <| ?_
      refine Runs.aloadN d11_233 rfl <| Runs.iconst d11_234 ci_1 <| ?_
      refine bind_el hf fun r43 hg44 hf => ?_
      refine Runs.callS (N := B15) (W := 0) (as := [.ref a, .int (1 : Int32)]) (S' := []) d11_235 w100 w101 cw15 ar15 rk11_15_0 (by decide) rfl rfl (L_pack_pay hg44) <| ans1 <| Runs.lload d11_238 rfl <| Runs.lcmp d11_240 <| ?_
      refine ite_el hf (fun hc45 hf => ?_) (fun hc45 hf => ?_)
      · refine Runs.ifN d11_241 (teq ((lw_eq _ _).mpr hc45)).2 <| ?_
        refine Runs.aloadN d11_244 rfl <| Runs.iconst d11_245 ci_m1 <| ?_
        refine bind_el hf fun r46 hg47 hf => ?_
        refine Runs.callS (N := B15) (W := 0) (as := [.ref a, .int (-1 : Int32)]) (S' := []) d11_246 w100 w101 cw15 ar15 rk11_15_0 (by decide) rfl rfl (L_pack_pay hg47) <| ans1 <| Runs.lload d11_249 rfl <| Runs.lcmp d11_251 <| ?_
        refine ite_el hf (fun hc48 hf => ?_) (fun hc48 hf => ?_)
        · refine Runs.ifY (pc' := 257) d11_252 (teq ((lw_eq _ _).mpr hc48)).1 (by decide) <| ?_
          refine Runs.aloadN d11_257 rfl <| Runs.iconst d11_258 ci_0 <| ?_
          refine bind_el hf fun r49 hg50 hf => ?_
          refine Runs.callV (N := B14) (W := 0) (as := [.int (0 : Int32)]) (S' := []) d11_259 w95 w96 w97 w98 cw14 ar14 rk11_14_0 (by decide) rfl rfl (X_legState_pay hg50) <| ans1 <| Runs.iload d11_262 rfl <| ?_
          refine ite_el hf (fun hc51 hf => ?_) (fun hc51 hf => ?_)
          · refine Runs.icN d11_264 (teq hc51).2 <| ?_
            refine Runs.aloadN d11_267 rfl <| Runs.iconst d11_268 ci_1 <| ?_
            refine bind_el hf fun r52 hg53 hf => ?_
            refine Runs.callV (N := B14) (W := 0) (as := [.int (1 : Int32)]) (S' := []) d11_269 w95 w96 w97 w98 cw14 ar14 rk11_14_0 (by decide) rfl rfl (X_legState_pay hg53) <| ans1 <| Runs.iload d11_272 rfl <| ?_
            refine ite_el hf (fun hc54 hf => ?_) (fun hc54 hf => ?_)
            · refine Runs.icN d11_274 (teq hc54).2 <| ?_
              refine Runs.aloadN d11_277 rfl <| ?_
              refine bind_el hf fun r55 hg56 hf => ?_
              refine Runs.callV (N := B12) (W := 0) (as := []) (S' := []) d11_278 w85 w86 w87 w88 cw12 ar12 rk11_12_0 (by decide) rfl rfl (X_isDown_pay hg56) <| ans1 <| ?_
              refine ite_el hf (fun hc57 hf => ?_) (fun hc57 hf => ?_)
              · refine Runs.ifN d11_281 (teq hc57).2 <| ?_
                refine Runs.aloadN d11_284 rfl <| ?_
                refine bind_el hf fun r58 hg59 hf => ?_
                refine Runs.callV (N := B13) (W := 0) (as := []) (S' := []) d11_285 w90 w91 w92 w93 cw13 ar13 rk11_13_0 (by decide) rfl rfl (X_pendingBlock_pay hg59) <| ans1 <| Runs.iconst d11_288 ci_m1 <| ?_
                refine ite_el hf (fun hc60 hf => ?_) (fun hc60 hf => ?_)
                · refine Runs.icY (pc' := 294) d11_289 (teq hc60).1 (by decide) <| ?_
                  exact Runs.iconst d11_294 ci_0 <| Runs.istore (P' := [vr a, vn, vn, vn, vn, vn, vn, vl l7, v2, vn, vn, vn, vn, vl l13, v2, vl l15, v2, vi i17, vi i18, vi i19, vi (0 : Int32), vn]) d11_295 (by decide) rfl <| L_relation_l297_p k216 hk216 NF ob l7 l13 l15 i17 i18 i19 (0 : Int32) hf
                · refine Runs.icN d11_289 (feq hc60).1 <| ?_
                  obtain rfl := Option.some.inj hf
                  exact Runs.iconst d11_292 ci_0 <| Runs.retZ (y := (0 : Int32)) d11_293 rfl ⟨by decide, by decide⟩ rfl ⟨rfl, rfl⟩
              · refine Runs.ifY (pc' := 292) d11_281 (feq hc57).2 (by decide) <| ?_
                obtain rfl := Option.some.inj hf
                exact Runs.iconst d11_292 ci_0 <| Runs.retZ (y := (0 : Int32)) d11_293 rfl ⟨by decide, by decide⟩ rfl ⟨rfl, rfl⟩
            · refine Runs.icY (pc' := 292) d11_274 (feq hc54).2 (by decide) <| ?_
              obtain rfl := Option.some.inj hf
              exact Runs.iconst d11_292 ci_0 <| Runs.retZ (y := (0 : Int32)) d11_293 rfl ⟨by decide, by decide⟩ rfl ⟨rfl, rfl⟩
          · refine Runs.icY (pc' := 292) d11_264 (feq hc51).2 (by decide) <| ?_
            obtain rfl := Option.some.inj hf
            exact Runs.iconst d11_292 ci_0 <| Runs.retZ (y := (0 : Int32)) d11_293 rfl ⟨by decide, by decide⟩ rfl ⟨rfl, rfl⟩
        · refine Runs.ifN d11_252 (feq (fun u => hc48 ((lw_eq _ _).mp u))).1 <| ?_
          obtain rfl := Option.some.inj hf
          exact Runs.iconst d11_255 ci_0 <| Runs.retZ (y := (0 : Int32)) d11_256 rfl ⟨by decide, by decide⟩ rfl ⟨rfl, rfl⟩
      · refine Runs.ifY (pc' := 255) d11_241 (feq (fun u => hc45 ((lw_eq _ _).mp u))).2 (by decide) <| ?_
        obtain rfl := Option.some.inj hf
        exact Runs.iconst d11_255 ci_0 <| Runs.retZ (y := (0 : Int32)) d11_256 rfl ⟨by decide, by decide⟩ rfl ⟨rfl, rfl⟩
    · refine Runs.ifY (pc' := 255) d11_230 (feq (fun u => hc42 ((lw_eq _ _).mp u))).2 (by decide) <| ?_
      obtain rfl := Option.some.inj hf
      exact Runs.iconst d11_255 ci_0 <| Runs.retZ (y := (0 : Int32)) d11_256 rfl ⟨by decide, by decide⟩ rfl ⟨rfl, rfl⟩
  · refine Runs.icY (pc' := 369) d11_219 (flt hc39).2.1 (by decide) <| ?_
    obtain rfl := Option.some.inj hf
    exact Runs.iconst d11_369 ci_1 <| Runs.retZ (y := (1 : Int32)) d11_370 rfl ⟨by decide, by decide⟩ rfl ⟨rfl, rfl⟩
theorem L_relation_l216_p {C : Ctx} {top : Nat} {a : Nat} {H : List (Nat × Nat × Rec)} {res : Int32 × Rec} {NF : Nat} (n : Nat) (ob : Rec) (l7 : Int64) (l13 : Int64) (l15 : Int64) (i17 : Int32) (i18 : Int32) (i19 : Int32) (hf : L_relation_l216 NF n ob l7 l13 l15 i17 i18 i19 = some res) : Runs C B11 0 0 216 [vr a, vn, vn, vn, vn, vn, vn, vl l7, v2, vn, vn, vn, vn, vl l13, v2, vl l15, v2, vi i17, vi i18, vi i19, vn, vn] [] (top, (a, 6, ob) :: H) (Ans (some (.int res.1)) (top, (a, 6, res.2) :: H)) := by
  induction n generalizing ob l7 l13 l15 i17 i18 i19 with
  | zero => cases (show (none : Option (Int32 × Rec)) = some res from hf)
  | succ n ih => exact L_relation_w216_p (L_relation_l216 NF n) (fun ob l7 l13 l15 i17 i18 i19 h => ih _ _ _ _ _ _ _ h) ob l7 l13 l15 i17 i18 i19 hf
def L_relation_b199 (NF : Nat) (ob : Rec) (i2 : Int32) (l7 : Int64) (i9 : Int32) (l13 : Int64) (l15 : Int64) (t0 : Int32) : Option (Int32 × Rec) :=
  if i9 = (0 : Int32) then
    L_relation_l216 NF NF ob l7 l13 l15 t0 i2 (0 : Int32)
  else
    L_relation_l216 NF NF ob l7 l13 l15 t0 (0 : Int32) (0 : Int32)
set_option maxRecDepth 65536 in
set_option maxHeartbeats 4000000 in
theorem L_relation_b199_p {C : Ctx} {top : Nat} {a : Nat} {H : List (Nat × Nat × Rec)} {res : Int32 × Rec} {NF : Nat} (ob : Rec) (i2 : Int32) (l7 : Int64) (i9 : Int32) (l13 : Int64) (l15 : Int64) (t0 : Int32) (hf : L_relation_b199 NF ob i2 l7 i9 l13 l15 t0 = some res) : Runs C B11 0 0 199 [vr a, vn, vi i2, vn, vn, vn, vn, vl l7, v2, vi i9, vn, vn, vn, vl l13, v2, vl l15, v2, vn, vn, vn, vn, vn] [.int t0] (top, (a, 6, ob) :: H) (Ans (some (.int res.1)) (top, (a, 6, res.2) :: H)) := by
  delta L_relation_b199 at hf
  refine Runs.istore (P' := [vr a, vn, vi i2, vn, vn, vn, vn, vl l7, v2, vi i9, vn, vn, vn, vl l13, v2, vl l15, v2, vi t0, vn, vn, vn, vn]) d11_199 (by decide) rfl <| Runs.iload d11_201 rfl <| ?_
  refine ite_el hf (fun hc38 hf => ?_) (fun hc38 hf => ?_)
  · refine Runs.ifY (pc' := 210) d11_203 (teq hc38).1 (by decide) <| ?_
    exact Runs.iloadN d11_210 rfl <| Runs.istore (P' := [vr a, vn, vi i2, vn, vn, vn, vn, vl l7, v2, vi i9, vn, vn, vn, vl l13, v2, vl l15, v2, vi t0, vi i2, vn, vn, vn]) d11_211 (by decide) rfl <| Runs.iconst d11_213 ci_0 <| Runs.istore (P' := [vr a, vn, vi i2, vn, vn, vn, vn, vl l7, v2, vi i9, vn, vn, vn, vl l13, v2, vl l15, v2, vi t0, vi i2, vi (0 : Int32), vn, vn]) d11_214 (by decide) rfl <| Runs.forget [true, false, false, false, false, false, false, true, true, false, false, false, false, true, true, true, true, true, true, true, false, false] rfl <| L_relation_l216_p NF ob l7 l13 l15 t0 i2 (0 : Int32) hf
  · refine Runs.ifN d11_203 (feq hc38).1 <| ?_
    exact Runs.iconst d11_206 ci_0 <| Runs.goto (pc' := 211) d11_207 (by decide) <| Runs.istore (P' := [vr a, vn, vi i2, vn, vn, vn, vn, vl l7, v2, vi i9, vn, vn, vn, vl l13, v2, vl l15, v2, vi t0, vi (0 : Int32), vn, vn, vn]) d11_211 (by decide) rfl <| Runs.iconst d11_213 ci_0 <| Runs.istore (P' := [vr a, vn, vi i2, vn, vn, vn, vn, vl l7, v2, vi i9, vn, vn, vn, vl l13, v2, vl l15, v2, vi t0, vi (0 : Int32), vi (0 : Int32), vn, vn]) d11_214 (by decide) rfl <| Runs.forget [true, false, false, false, false, false, false, true, true, false, false, false, false, true, true, true, true, true, true, true, false, false] rfl <| L_relation_l216_p NF ob l7 l13 l15 t0 (0 : Int32) (0 : Int32) hf
def L_relation_b187 (NF : Nat) (ob : Rec) (i1 : Int32) (i2 : Int32) (l7 : Int64) (i9 : Int32) (l13 : Int64) (t0 : Int64) : Option (Int32 × Rec) :=
  if i9 = (0 : Int32) then
    L_relation_b199 NF ob i2 l7 i9 l13 t0 i1
  else
    L_relation_b199 NF ob i2 l7 i9 l13 t0 (0 : Int32)
set_option maxRecDepth 65536 in
set_option maxHeartbeats 4000000 in
theorem L_relation_b187_p {C : Ctx} {top : Nat} {a : Nat} {H : List (Nat × Nat × Rec)} {res : Int32 × Rec} {NF : Nat} (ob : Rec) (i1 : Int32) (i2 : Int32) (l7 : Int64) (i9 : Int32) (l13 : Int64) (t0 : Int64) (hf : L_relation_b187 NF ob i1 i2 l7 i9 l13 t0 = some res) : Runs C B11 0 0 187 [vr a, vi i1, vi i2, vn, vn, vn, vn, vl l7, v2, vi i9, vn, vn, vn, vl l13, v2, vn, vn, vn, vn, vn, vn, vn] [.long t0] (top, (a, 6, ob) :: H) (Ans (some (.int res.1)) (top, (a, 6, res.2) :: H)) := by
  delta L_relation_b187 at hf
  refine Runs.lstore (P' := [vr a, vi i1, vi i2, vn, vn, vn, vn, vl l7, v2, vi i9, vn, vn, vn, vl l13, v2, vl t0, v2, vn, vn, vn, vn, vn]) d11_187 (by decide) rfl <| Runs.iload d11_189 rfl <| ?_
  refine ite_el hf (fun hc37 hf => ?_) (fun hc37 hf => ?_)
  · refine Runs.ifY (pc' := 198) d11_191 (teq hc37).1 (by decide) <| ?_
    exact Runs.iloadN d11_198 rfl <| Runs.forget [true, false, true, false, false, false, false, true, true, true, false, false, false, true, true, true, true, false, false, false, false, false] rfl <| L_relation_b199_p ob i2 l7 i9 l13 t0 i1 hf
  · refine Runs.ifN d11_191 (feq hc37).1 <| ?_
    exact Runs.iconst d11_194 ci_0 <| Runs.goto (pc' := 199) d11_195 (by decide) <| Runs.forget [true, false, true, false, false, false, false, true, true, true, false, false, false, true, true, true, true, false, false, false, false, false] rfl <| L_relation_b199_p ob i2 l7 i9 l13 t0 (0 : Int32) hf
def L_relation_b173 (NF : Nat) (ob : Rec) (i1 : Int32) (i2 : Int32) (l5 : Int64) (l7 : Int64) (i9 : Int32) (l10 : Int64) (t0 : Int64) : Option (Int32 × Rec) :=
  if i9 = (0 : Int32) then
    L_relation_b187 NF ob i1 i2 l7 i9 t0 l5
  else
    L_relation_b187 NF ob i1 i2 l7 i9 t0 l10
set_option maxRecDepth 65536 in
set_option maxHeartbeats 4000000 in
theorem L_relation_b173_p {C : Ctx} {top : Nat} {a : Nat} {H : List (Nat × Nat × Rec)} {res : Int32 × Rec} {NF : Nat} (ob : Rec) (i1 : Int32) (i2 : Int32) (l5 : Int64) (l7 : Int64) (i9 : Int32) (l10 : Int64) (t0 : Int64) (hf : L_relation_b173 NF ob i1 i2 l5 l7 i9 l10 t0 = some res) : Runs C B11 0 0 173 [vr a, vi i1, vi i2, vn, vn, vl l5, v2, vl l7, v2, vi i9, vl l10, v2, vn, vn, vn, vn, vn, vn, vn, vn, vn, vn] [.long t0] (top, (a, 6, ob) :: H) (Ans (some (.int res.1)) (top, (a, 6, res.2) :: H)) := by
  delta L_relation_b173 at hf
  refine Runs.lstore (P' := [vr a, vi i1, vi i2, vn, vn, vl l5, v2, vl l7, v2, vi i9, vl l10, v2, vn, vl t0, v2, vn, vn, vn, vn, vn, vn, vn]) d11_173 (by decide) rfl <| Runs.iload d11_175 rfl <| ?_
  refine ite_el hf (fun hc36 hf => ?_) (fun hc36 hf => ?_)
  · refine Runs.ifY (pc' := 185) d11_177 (teq hc36).1 (by decide) <| ?_
    exact Runs.lload d11_185 rfl <| Runs.forget [true, true, true, false, false, false, false, true, true, true, false, false, false, true, true, false, false, false, false, false, false, false] rfl <| L_relation_b187_p ob i1 i2 l7 i9 t0 l5 hf
  · refine Runs.ifN d11_177 (feq hc36).1 <| ?_
    exact Runs.lload d11_180 rfl <| Runs.goto (pc' := 187) d11_182 (by decide) <| Runs.forget [true, true, true, false, false, false, false, true, true, true, false, false, false, true, true, false, false, false, false, false, false, false] rfl <| L_relation_b187_p ob i1 i2 l7 i9 t0 l10 hf
def L_relation_b157 (NF : Nat) (ob : Rec) (i1 : Int32) (i2 : Int32) (l3 : Int64) (l5 : Int64) (l7 : Int64) (i9 : Int32) (l10 : Int64) (t0 : Int32) (t1 : Int32) : Option (Int32 × Rec) :=
  if t0 = t1 then
    if i9 = (0 : Int32) then
      L_relation_b173 NF ob i1 i2 l5 l7 i9 l10 l3
    else
      L_relation_b173 NF ob i1 i2 l5 l7 i9 l10 l10
  else
    some ((0 : Int32), ob)
set_option maxRecDepth 65536 in
set_option maxHeartbeats 4000000 in
theorem L_relation_b157_p {C : Ctx} {top : Nat} {a : Nat} {H : List (Nat × Nat × Rec)} {res : Int32 × Rec} {NF : Nat} (ob : Rec) (i1 : Int32) (i2 : Int32) (l3 : Int64) (l5 : Int64) (l7 : Int64) (i9 : Int32) (l10 : Int64) (t0 : Int32) (t1 : Int32) (hf : L_relation_b157 NF ob i1 i2 l3 l5 l7 i9 l10 t0 t1 = some res) : Runs C B11 0 0 157 [vr a, vi i1, vi i2, vl l3, v2, vl l5, v2, vl l7, v2, vi i9, vl l10, v2, vn, vn, vn, vn, vn, vn, vn, vn, vn, vn] [.int t1, .int t0] (top, (a, 6, ob) :: H) (Ans (some (.int res.1)) (top, (a, 6, res.2) :: H)) := by
  delta L_relation_b157 at hf
  refine ite_el hf (fun hc34 hf => ?_) (fun hc34 hf => ?_)
  · refine Runs.icY (pc' := 162) d11_157 (teq hc34).1 (by decide) <| ?_
    refine Runs.iload d11_162 rfl <| ?_
    refine ite_el hf (fun hc35 hf => ?_) (fun hc35 hf => ?_)
    · refine Runs.ifY (pc' := 172) d11_164 (teq hc35).1 (by decide) <| ?_
      exact Runs.lloadN d11_172 rfl <| Runs.forget [true, true, true, false, false, true, true, true, true, true, true, true, false, false, false, false, false, false, false, false, false, false] rfl <| L_relation_b173_p ob i1 i2 l5 l7 i9 l10 l3 hf
    · refine Runs.ifN d11_164 (feq hc35).1 <| ?_
      exact Runs.lload d11_167 rfl <| Runs.goto (pc' := 173) d11_169 (by decide) <| Runs.forget [true, true, true, false, false, true, true, true, true, true, true, true, false, false, false, false, false, false, false, false, false, false] rfl <| L_relation_b173_p ob i1 i2 l5 l7 i9 l10 l10 hf
  · refine Runs.icN d11_157 (feq hc34).1 <| ?_
    obtain rfl := Option.some.inj hf
    exact Runs.iconst d11_160 ci_0 <| Runs.retZ (y := (0 : Int32)) d11_161 rfl ⟨by decide, by decide⟩ rfl ⟨rfl, rfl⟩
def L_relation_b136 (NF : Nat) (ob : Rec) (i1 : Int32) (i2 : Int32) (l3 : Int64) (l5 : Int64) (l7 : Int64) (i9 : Int32) (t0 : Int64) : Option (Int32 × Rec) :=
  bind2 (X_resync NF ob) fun r30 q31 =>
  if i9 = (0 : Int32) then
    L_relation_b157 NF q31 i1 i2 l3 l5 l7 i9 t0 r30 (-4 : Int32)
  else
    L_relation_b157 NF q31 i1 i2 l3 l5 l7 i9 t0 r30 (0 : Int32)
set_option maxRecDepth 65536 in
set_option maxHeartbeats 4000000 in
theorem L_relation_b136_p {C : Ctx} {top : Nat} {a : Nat} {H : List (Nat × Nat × Rec)} {res : Int32 × Rec} {NF : Nat} (ob : Rec) (i1 : Int32) (i2 : Int32) (l3 : Int64) (l5 : Int64) (l7 : Int64) (i9 : Int32) (t0 : Int64) (hf : L_relation_b136 NF ob i1 i2 l3 l5 l7 i9 t0 = some res) : Runs C B11 0 0 136 [vr a, vi i1, vi i2, vl l3, v2, vl l5, v2, vl l7, v2, vi i9, vn, vn, vn, vn, vn, vn, vn, vn, vn, vn, vn, vn] [.long t0] (top, (a, 6, ob) :: H) (Ans (some (.int res.1)) (top, (a, 6, res.2) :: H)) := by
  delta L_relation_b136 at hf
  refine Runs.lstore (P' := [vr a, vi i1, vi i2, vl l3, v2, vl l5, v2, vl l7, v2, vi i9, vl t0, v2, vn, vn, vn, vn, vn, vn, vn, vn, vn, vn]) d11_136 (by decide) rfl <| Runs.aloadN d11_138 rfl <| ?_
  refine bind2_el hf fun r30 q31 hg32 hf => ?_
  refine Runs.callV (N := B18) (W := 0) (as := []) (S' := []) d11_139 w113 w114 w115 w116 cw18 ar18 rk11_18_0 (by decide) rfl rfl (X_resync_pay hg32) <| ans1 <| Runs.istore (P' := [vr a, vi i1, vi i2, vl l3, v2, vl l5, v2, vl l7, v2, vi i9, vl t0, v2, vi r30, vn, vn, vn, vn, vn, vn, vn, vn, vn]) d11_142 (by decide) rfl <| Runs.iload d11_144 rfl <| Runs.iload d11_146 rfl <| ?_
  refine ite_el hf (fun hc33 hf => ?_) (fun hc33 hf => ?_)
  · refine Runs.ifY (pc' := 155) d11_148 (teq hc33).1 (by decide) <| ?_
    exact Runs.bipush d11_155 cb_m4 <| Runs.forget [true, true, true, true, true, true, true, true, true, true, true, true, false, false, false, false, false, false, false, false, false, false] rfl <| L_relation_b157_p q31 i1 i2 l3 l5 l7 i9 t0 r30 (-4 : Int32) hf
  · refine Runs.ifN d11_148 (feq hc33).1 <| ?_
    exact Runs.iconst d11_151 ci_0 <| Runs.goto (pc' := 157) d11_152 (by decide) <| Runs.forget [true, true, true, true, true, true, true, true, true, true, true, true, false, false, false, false, false, false, false, false, false, false] rfl <| L_relation_b157_p q31 i1 i2 l3 l5 l7 i9 t0 r30 (0 : Int32) hf
def L_relation_b124 (NF : Nat) (ob : Rec) (i1 : Int32) (i2 : Int32) (l3 : Int64) (l5 : Int64) (l7 : Int64) (t0 : Int32) : Option (Int32 × Rec) :=
  if i1 = (0 : Int32) then
    L_relation_b136 NF ob i1 i2 l3 l5 l7 t0 l3
  else
    L_relation_b136 NF ob i1 i2 l3 l5 l7 t0 l5
set_option maxRecDepth 65536 in
set_option maxHeartbeats 4000000 in
theorem L_relation_b124_p {C : Ctx} {top : Nat} {a : Nat} {H : List (Nat × Nat × Rec)} {res : Int32 × Rec} {NF : Nat} (ob : Rec) (i1 : Int32) (i2 : Int32) (l3 : Int64) (l5 : Int64) (l7 : Int64) (t0 : Int32) (hf : L_relation_b124 NF ob i1 i2 l3 l5 l7 t0 = some res) : Runs C B11 0 0 124 [vr a, vi i1, vi i2, vl l3, v2, vl l5, v2, vl l7, v2, vn, vn, vn, vn, vn, vn, vn, vn, vn, vn, vn, vn, vn] [.int t0] (top, (a, 6, ob) :: H) (Ans (some (.int res.1)) (top, (a, 6, res.2) :: H)) := by
  delta L_relation_b124 at hf
  refine Runs.istore (P' := [vr a, vi i1, vi i2, vl l3, v2, vl l5, v2, vl l7, v2, vi t0, vn, vn, vn, vn, vn, vn, vn, vn, vn, vn, vn, vn]) d11_124 (by decide) rfl <| Runs.iloadN d11_126 rfl <| ?_
  refine ite_el hf (fun hc29 hf => ?_) (fun hc29 hf => ?_)
  · refine Runs.ifN d11_127 (teq hc29).2 <| ?_
    exact Runs.lloadN d11_130 rfl <| Runs.goto (pc' := 136) d11_131 (by decide) <| L_relation_b136_p ob i1 i2 l3 l5 l7 t0 l3 hf
  · refine Runs.ifY (pc' := 134) d11_127 (feq hc29).2 (by decide) <| ?_
    exact Runs.lload d11_134 rfl <| L_relation_b136_p ob i1 i2 l3 l5 l7 t0 l5 hf
def L_relation_w14 (NF : Nat) (k14 : Rec → Int32 → Option (Int32 × Rec)) (ob : Rec) (i1 : Int32) : Option (Int32 × Rec) :=
  if i1 < (3 : Int32) then
    (X_pendingBlock ob).bind fun r2 =>
    if r2 = (-1 : Int32) then
      k14 ob (i1 + (1 : Int32))
    else
      bind2 (X_step NF ob) fun r5 q6 =>
      k14 q6 (i1 + (1 : Int32))
  else
    (X_pendingBlock ob).bind fun r8 =>
    if r8 = (-1 : Int32) then
      (X_isDown ob).bind fun r11 =>
      if r11 = (0 : Int32) then
        (X_legState ob (0 : Int32)).bind fun r14 =>
        (X_legState ob (1 : Int32)).bind fun r16 =>
        (L_pack NF ob (0 : Int32)).bind fun r18 =>
        (L_pack NF ob (1 : Int32)).bind fun r20 =>
        (L_pack NF ob (-1 : Int32)).bind fun r22 =>
        if r18 < (0 : Int64) then
          some ((0 : Int32), ob)
        else
          if r20 < (0 : Int64) then
            some ((0 : Int32), ob)
          else
            if r22 < (0 : Int64) then
              some ((0 : Int32), ob)
            else
              if r14 = (1 : Int32) then
                L_relation_b124 NF ob r14 r16 r18 r20 r22 (1 : Int32)
              else
                if r16 = (1 : Int32) then
                  L_relation_b124 NF ob r14 r16 r18 r20 r22 (1 : Int32)
                else
                  L_relation_b124 NF ob r14 r16 r18 r20 r22 (0 : Int32)
      else
        some ((0 : Int32), ob)
    else
      some ((0 : Int32), ob)
def L_relation_l14 (NF : Nat) : Nat → Rec → Int32 → Option (Int32 × Rec)
  | 0, _, _ => none
  | n + 1, ob, i1 => L_relation_w14 NF (L_relation_l14 NF n) ob i1
set_option maxRecDepth 65536 in
set_option maxHeartbeats 4000000 in
theorem L_relation_w14_p {C : Ctx} {top : Nat} {a : Nat} {H : List (Nat × Nat × Rec)} {res : Int32 × Rec} {NF : Nat} (k14 : Rec → Int32 → Option (Int32 × Rec)) (hk14 : ∀ (ob : Rec) (i1 : Int32), k14 ob i1 = some res → Runs C B11 0 0 14 [vr a, vi i1, vn, vn, vn, vn, vn, vn, vn, vn, vn, vn, vn, vn, vn, vn, vn, vn, vn, vn, vn, vn] [] (top, (a, 6, ob) :: H) (Ans (some (.int res.1)) (top, (a, 6, res.2) :: H))) (ob : Rec) (i1 : Int32) (hf : L_relation_w14 NF k14 ob i1 = some res) : Runs C B11 0 0 14 [vr a, vi i1, vn, vn, vn, vn, vn, vn, vn, vn, vn, vn, vn, vn, vn, vn, vn, vn, vn, vn, vn, vn] [] (top, (a, 6, ob) :: H) (Ans (some (.int res.1)) (top, (a, 6, res.2) :: H)) := by
  delta L_relation_w14 at hf
  refine Runs.iloadN d11_14 rfl <| Runs.iconst d11_15 ci_3 <| ?_
  refine ite_el hf (fun hc1 hf => ?_) (fun hc1 hf => ?_)
  · refine Runs.icN d11_16 (tlt hc1).2.1 <| ?_
    refine Runs.aloadN d11_19 rfl <| ?_
    refine bind_el hf fun r2 hg3 hf => ?_
    refine Runs.callV (N := B13) (W := 0) (as := []) (S' := []) d11_20 w90 w91 w92 w93 cw13 ar13 rk11_13_0 (by decide) rfl rfl (X_pendingBlock_pay hg3) <| ans1 <| Runs.iconst d11_23 ci_m1 <| ?_
    refine ite_el hf (fun hc4 hf => ?_) (fun hc4 hf => ?_)
    · refine Runs.icY (pc' := 32) d11_24 (teq hc4).1 (by decide) <| ?_
      exact Runs.iinc (P' := [vr a, vi (i1 + (1 : Int32)), vn, vn, vn, vn, vn, vn, vn, vn, vn, vn, vn, vn, vn, vn, vn, vn, vn, vn, vn, vn]) d11_32 ci_1 rfl (by decide) rfl <| Runs.goto (pc' := 14) d11_35 (by decide) <| hk14 ob (i1 + (1 : Int32)) hf
    · refine Runs.icN d11_24 (feq hc4).1 <| ?_
      refine Runs.aloadN d11_27 rfl <| ?_
      refine bind2_el hf fun r5 q6 hg7 hf => ?_
      exact Runs.callV (N := B22) (W := 0) (as := []) (S' := []) d11_28 w131 w132 w133 w134 cw22 ar22 rk11_22_0 (by decide) rfl rfl (X_step_pay hg7) <| ans1 <| Runs.pop d11_31 rfl <| Runs.iinc (P' := [vr a, vi (i1 + (1 : Int32)), vn, vn, vn, vn, vn, vn, vn, vn, vn, vn, vn, vn, vn, vn, vn, vn, vn, vn, vn, vn]) d11_32 ci_1 rfl (by decide) rfl <| Runs.goto (pc' := 14) d11_35 (by decide) <| hk14 q6 (i1 + (1 : Int32)) hf
  · refine Runs.icY (pc' := 38) d11_16 (flt hc1).2.1 (by decide) <| ?_
    refine Runs.aloadN d11_38 rfl <| ?_
    refine bind_el hf fun r8 hg9 hf => ?_
    refine Runs.callV (N := B13) (W := 0) (as := []) (S' := []) d11_39 w90 w91 w92 w93 cw13 ar13 rk11_13_0 (by decide) rfl rfl (X_pendingBlock_pay hg9) <| ans1 <| Runs.iconst d11_42 ci_m1 <| ?_
    refine ite_el hf (fun hc10 hf => ?_) (fun hc10 hf => ?_)
    · refine Runs.icN d11_43 (teq hc10).2 <| ?_
      refine Runs.aloadN d11_46 rfl <| ?_
      refine bind_el hf fun r11 hg12 hf => ?_
      refine Runs.callV (N := B12) (W := 0) (as := []) (S' := []) d11_47 w85 w86 w87 w88 cw12 ar12 rk11_12_0 (by decide) rfl rfl (X_isDown_pay hg12) <| ans1 <| ?_
      refine ite_el hf (fun hc13 hf => ?_) (fun hc13 hf => ?_)
      · refine Runs.ifY (pc' := 55) d11_50 (teq hc13).1 (by decide) <| ?_
        refine Runs.aloadN d11_55 rfl <| Runs.iconst d11_56 ci_0 <| ?_
        refine bind_el hf fun r14 hg15 hf => ?_
        refine Runs.callV (N := B14) (W := 0) (as := [.int (0 : Int32)]) (S' := []) d11_57 w95 w96 w97 w98 cw14 ar14 rk11_14_0 (by decide) rfl rfl (X_legState_pay hg15) <| ans1 <| Runs.istoreN (P' := [vr a, vi r14, vn, vn, vn, vn, vn, vn, vn, vn, vn, vn, vn, vn, vn, vn, vn, vn, vn, vn, vn, vn]) d11_60 (by decide) rfl <| Runs.aloadN d11_61 rfl <| Runs.iconst d11_62 ci_1 <| ?_
        refine bind_el hf fun r16 hg17 hf => ?_
        refine Runs.callV (N := B14) (W := 0) (as := [.int (1 : Int32)]) (S' := []) d11_63 w95 w96 w97 w98 cw14 ar14 rk11_14_0 (by decide) rfl rfl (X_legState_pay hg17) <| ans1 <| Runs.istoreN (P' := [vr a, vi r14, vi r16, vn, vn, vn, vn, vn, vn, vn, vn, vn, vn, vn, vn, vn, vn, vn, vn, vn, vn, vn]) d11_66 (by decide) rfl <| Runs.aloadN d11_67 rfl <| Runs.iconst d11_68 ci_0 <| ?_
        refine bind_el hf fun r18 hg19 hf => ?_
        refine Runs.callS (N := B15) (W := 0) (as := [.ref a, .int (0 : Int32)]) (S' := []) d11_69 w100 w101 cw15 ar15 rk11_15_0 (by decide) rfl rfl (L_pack_pay hg19) <| ans1 <| Runs.lstoreN (P' := [vr a, vi r14, vi r16, vl r18, v2, vn, vn, vn, vn, vn, vn, vn, vn, vn, vn, vn, vn, vn, vn, vn, vn, vn]) d11_72 (by decide) rfl <| Runs.aloadN d11_73 rfl <| Runs.iconst d11_74 ci_1 <| ?_
        refine bind_el hf fun r20 hg21 hf => ?_
        refine Runs.callS (N := B15) (W := 0) (as := [.ref a, .int (1 : Int32)]) (S' := []) d11_75 w100 w101 cw15 ar15 rk11_15_0 (by decide) rfl rfl (L_pack_pay hg21) <| ans1 <| Runs.lstore (P' := [vr a, vi r14, vi r16, vl r18, v2, vl r20, v2, vn, vn, vn, vn, vn, vn, vn, vn, vn, vn, vn, vn, vn, vn, vn]) d11_78 (by decide) rfl <| Runs.aloadN d11_80 rfl <| Runs.iconst d11_81 ci_m1 <| ?_
        refine bind_el hf fun r22 hg23 hf => ?_
        refine Runs.callS (N := B15) (W := 0) (as := [.ref a, .int (-1 : Int32)]) (S' := []) d11_82 w100 w101 cw15 ar15 rk11_15_0 (by decide) rfl rfl (L_pack_pay hg23) <| ans1 <| Runs.lstore (P' := [vr a, vi r14, vi r16, vl r18, v2, vl r20, v2, vl r22, v2, vn, vn, vn, vn, vn, vn, vn, vn, vn, vn, vn, vn, vn]) d11_85 (by decide) rfl <| Runs.lloadN d11_87 rfl <| Runs.lconst d11_88 cl_0 <| Runs.lcmp d11_89 <| ?_
        refine ite_el hf (fun hc24 hf => ?_) (fun hc24 hf => ?_)
        · refine Runs.ifY (pc' := 107) d11_90 (tlt ((lw_lt _ _).mpr hc24)).1 (by decide) <| ?_
          obtain rfl := Option.some.inj hf
          exact Runs.iconst d11_107 ci_0 <| Runs.retZ (y := (0 : Int32)) d11_108 rfl ⟨by decide, by decide⟩ rfl ⟨rfl, rfl⟩
        · refine Runs.ifN d11_90 (flt (fun u => hc24 ((lw_lt _ _).mp u))).1 <| ?_
          refine Runs.lload d11_93 rfl <| Runs.lconst d11_95 cl_0 <| Runs.lcmp d11_96 <| ?_
          refine ite_el hf (fun hc25 hf => ?_) (fun hc25 hf => ?_)
          · refine Runs.ifY (pc' := 107) d11_97 (tlt ((lw_lt _ _).mpr hc25)).1 (by decide) <| ?_
            obtain rfl := Option.some.inj hf
            exact Runs.iconst d11_107 ci_0 <| Runs.retZ (y := (0 : Int32)) d11_108 rfl ⟨by decide, by decide⟩ rfl ⟨rfl, rfl⟩
          · refine Runs.ifN d11_97 (flt (fun u => hc25 ((lw_lt _ _).mp u))).1 <| ?_
            refine Runs.lload d11_100 rfl <| Runs.lconst d11_102 cl_0 <| Runs.lcmp d11_103 <| ?_
            refine ite_el hf (fun hc26 hf => ?_) (fun hc26 hf => ?_)
            · refine Runs.ifN d11_104 (tlt ((lw_lt _ _).mpr hc26)).2.1 <| ?_
              obtain rfl := Option.some.inj hf
              exact Runs.iconst d11_107 ci_0 <| Runs.retZ (y := (0 : Int32)) d11_108 rfl ⟨by decide, by decide⟩ rfl ⟨rfl, rfl⟩
            · refine Runs.ifY (pc' := 109) d11_104 (flt (fun u => hc26 ((lw_lt _ _).mp u))).2.1 (by decide) <| ?_
              refine Runs.iloadN d11_109 rfl <| Runs.iconst d11_110 ci_1 <| ?_
              refine ite_el hf (fun hc27 hf => ?_) (fun hc27 hf => ?_)
              · refine Runs.icY (pc' := 119) d11_111 (teq hc27).1 (by decide) <| ?_
                exact Runs.iconst d11_119 ci_1 <| Runs.goto (pc' := 124) d11_120 (by decide) <| L_relation_b124_p ob r14 r16 r18 r20 r22 (1 : Int32) hf
              · refine Runs.icN d11_111 (feq hc27).1 <| ?_
                refine Runs.iloadN d11_114 rfl <| Runs.iconst d11_115 ci_1 <| ?_
                refine ite_el hf (fun hc28 hf => ?_) (fun hc28 hf => ?_)
                · refine Runs.icN d11_116 (teq hc28).2 <| ?_
                  exact Runs.iconst d11_119 ci_1 <| Runs.goto (pc' := 124) d11_120 (by decide) <| L_relation_b124_p ob r14 r16 r18 r20 r22 (1 : Int32) hf
                · refine Runs.icY (pc' := 123) d11_116 (feq hc28).2 (by decide) <| ?_
                  exact Runs.iconst d11_123 ci_0 <| L_relation_b124_p ob r14 r16 r18 r20 r22 (0 : Int32) hf
      · refine Runs.ifN d11_50 (feq hc13).1 <| ?_
        obtain rfl := Option.some.inj hf
        exact Runs.iconst d11_53 ci_0 <| Runs.retZ (y := (0 : Int32)) d11_54 rfl ⟨by decide, by decide⟩ rfl ⟨rfl, rfl⟩
    · refine Runs.icY (pc' := 53) d11_43 (feq hc10).2 (by decide) <| ?_
      obtain rfl := Option.some.inj hf
      exact Runs.iconst d11_53 ci_0 <| Runs.retZ (y := (0 : Int32)) d11_54 rfl ⟨by decide, by decide⟩ rfl ⟨rfl, rfl⟩
theorem L_relation_l14_p {C : Ctx} {top : Nat} {a : Nat} {H : List (Nat × Nat × Rec)} {res : Int32 × Rec} {NF : Nat} (n : Nat) (ob : Rec) (i1 : Int32) (hf : L_relation_l14 NF n ob i1 = some res) : Runs C B11 0 0 14 [vr a, vi i1, vn, vn, vn, vn, vn, vn, vn, vn, vn, vn, vn, vn, vn, vn, vn, vn, vn, vn, vn, vn] [] (top, (a, 6, ob) :: H) (Ans (some (.int res.1)) (top, (a, 6, res.2) :: H)) := by
  induction n generalizing ob i1 with
  | zero => cases (show (none : Option (Int32 × Rec)) = some res from hf)
  | succ n ih => exact L_relation_w14_p (L_relation_l14 NF n) (fun ob i1 h => ih _ _ h) ob i1 hf
def L_relation (NF : Nat) (ob : Rec) : Option (Int32 × Rec) :=
  (X_isDown ob).bind fun r75 =>
  if r75 = (0 : Int32) then
    L_relation_l14 NF NF ob (0 : Int32)
  else
    bind2 (X_restart ob) fun r78 q79 =>
    L_relation_l14 NF NF q79 (0 : Int32)
set_option maxRecDepth 65536 in
set_option maxHeartbeats 4000000 in
theorem L_relation_p {C : Ctx} {top : Nat} {a : Nat} {H : List (Nat × Nat × Rec)} {res : Int32 × Rec} {NF : Nat} (ob : Rec) (hf : L_relation NF ob = some res) : Runs C B11 0 0 0 [vr a, vn, vn, vn, vn, vn, vn, vn, vn, vn, vn, vn, vn, vn, vn, vn, vn, vn, vn, vn, vn, vn] [] (top, (a, 6, ob) :: H) (Ans (some (.int res.1)) (top, (a, 6, res.2) :: H)) := by
  delta L_relation at hf
  refine Runs.aloadN d11_0 rfl <| ?_
  refine bind_el hf fun r75 hg76 hf => ?_
  refine Runs.callV (N := B12) (W := 0) (as := []) (S' := []) d11_1 w85 w86 w87 w88 cw12 ar12 rk11_12_0 (by decide) rfl rfl (X_isDown_pay hg76) <| ans1 <| ?_
  refine ite_el hf (fun hc77 hf => ?_) (fun hc77 hf => ?_)
  · refine Runs.ifY (pc' := 12) d11_4 (teq hc77).1 (by decide) <| ?_
    exact Runs.iconst d11_12 ci_0 <| Runs.istoreN (P' := [vr a, vi (0 : Int32), vn, vn, vn, vn, vn, vn, vn, vn, vn, vn, vn, vn, vn, vn, vn, vn, vn, vn, vn, vn]) d11_13 (by decide) rfl <| L_relation_l14_p NF ob (0 : Int32) hf
  · refine Runs.ifN d11_4 (feq hc77).1 <| ?_
    refine Runs.aloadN d11_7 rfl <| ?_
    refine bind2_el hf fun r78 q79 hg80 hf => ?_
    exact Runs.callV (N := B7) (W := 0) (as := []) (S' := []) d11_8 w63 w64 w65 w66 cw7 ar7 rk11_7_0 (by decide) rfl rfl (X_restart_pay hg80) <| ans1 <| Runs.pop d11_11 rfl <| Runs.iconst d11_12 ci_0 <| Runs.istoreN (P' := [vr a, vi (0 : Int32), vn, vn, vn, vn, vn, vn, vn, vn, vn, vn, vn, vn, vn, vn, vn, vn, vn, vn, vn, vn]) d11_13 (by decide) rfl <| L_relation_l14_p NF q79 (0 : Int32) hf
theorem L_relation_pay {C : Ctx} {top : Nat} {a : Nat} {H : List (Nat × Nat × Rec)} {res : Int32 × Rec} {NF : Nat} {ob : Rec} (hf : L_relation NF ob = some res) : Pays C B11 [.ref a] (top, (a, 6, ob) :: H) (Ans (some (.int res.1)) (top, (a, 6, res.2) :: H)) :=
  Pays.of pnL (Nat.le_of_ble_eq_true rfl) (P := [vr a, vn, vn, vn, vn, vn, vn, vn, vn, vn, vn, vn, vn, vn, vn, vn, vn, vn, vn, vn, vn, vn]) 21 rfl (L_relation_p ob hf)
def L_law_b86 (NF : Nat) (z : Int32) (f : Int32 → Int32) (k38 : Rec → Int32 → Int32 → Option (Int32)) (ob : Rec) (i1 : Int32) (i3 : Int32) (i4 : Int32) (i5 : Int32) (i6 : Int32) (i7 : Int32) : Option (Int32) :=
  if i4 = (0 : Int32) then
    bind2 (X_write ob (i5 &&& (15 : Int32)) ((i6 &&& (31 : Int32)) - (1 : Int32))) fun r14 q15 =>
    k38 q15 i1 (i3 + (3 : Int32))
  else
    if i4 = (1 : Int32) then
      bind2 (X_crash ob) fun r18 q19 =>
      k38 q19 i1 (i3 + (3 : Int32))
    else
      if i4 = (2 : Int32) then
        bind2 (X_restart ob) fun r22 q23 =>
        k38 q23 i1 (i3 + (3 : Int32))
      else
        if i4 = (3 : Int32) then
          bind2 (X_failLeg ob i7) fun r26 q27 =>
          k38 q27 i1 (i3 + (3 : Int32))
        else
          if i4 = (4 : Int32) then
            bind2 (X_reattachLeg ob i7) fun r30 q31 =>
            k38 q31 i1 (i3 + (3 : Int32))
          else
            if i4 = (5 : Int32) then
              bind2 (X_replaceLeg NF ob i7) fun r34 q35 =>
              k38 q35 i1 (i3 + (3 : Int32))
            else
              if i4 = (6 : Int32) then
                bind2 (X_resync NF ob) fun r38 q39 =>
                k38 q39 i1 (i3 + (3 : Int32))
              else
                if i4 = (15 : Int32) then
                  bind2 (L_relation NF ob) fun r42 q43 =>
                  if r42 = (0 : Int32) then
                    some (0 : Int32)
                  else
                    k38 q43 i1 (i3 + (3 : Int32))
                else
                  bind2 (X_step NF ob) fun r46 q47 =>
                  k38 q47 i1 (i3 + (3 : Int32))
set_option maxRecDepth 65536 in
set_option maxHeartbeats 4000000 in
theorem L_law_b86_p {C : Ctx} {sa : Nat} {z : Int32} {f : Int32 → Int32} (hs : ScrF C sa z f) {res : Int32} {NF : Nat} (k38 : Rec → Int32 → Int32 → Option (Int32)) (hk38 : ∀ (ob : Rec) (i1 : Int32) (i3 : Int32), k38 ob i1 i3 = some res → Runs C B0 7 209 38 [vr sa, vi i1, vr C.2.2.1, vi i3, vn, vn, vn, vn] [] (C.2.2.1 + 1 + 6, (C.2.2.1, 6, ob) :: []) (fun v _ => v = (some (.int res)))) (ob : Rec) (i1 : Int32) (i3 : Int32) (i4 : Int32) (i5 : Int32) (i6 : Int32) (i7 : Int32) (hf : L_law_b86 NF z f k38 ob i1 i3 i4 i5 i6 i7 = some res) : Runs C B0 7 209 86 [vr sa, vi i1, vr C.2.2.1, vi i3, vi i4, vi i5, vi i6, vi i7] [] (C.2.2.1 + 1 + 6, (C.2.2.1, 6, ob) :: []) (fun v _ => v = (some (.int res))) := by
  delta L_law_b86 at hf
  refine Runs.iload d0_86 rfl <| ?_
  refine ite_el hf (fun hc13 hf => ?_) (fun hc13 hf => ?_)
  · refine Runs.ifN d0_88 (teq hc13).2 <| ?_
    refine Runs.aloadN d0_91 rfl <| Runs.iload d0_92 rfl <| Runs.bipush d0_94 cb_15 <| Runs.iand d0_96 <| Runs.iload d0_97 rfl <| Runs.bipush d0_99 cb_31 <| Runs.iand d0_101 <| Runs.iconst d0_102 ci_1 <| Runs.isub d0_103 <| ?_
    refine bind2_el hf fun r14 q15 hg16 hf => ?_
    exact Runs.callV (N := B5) (W := 0) (as := [.int (i5 &&& (15 : Int32)), .int ((i6 &&& (31 : Int32)) - (1 : Int32))]) (S' := []) d0_104 w53 w54 w55 w56 cw5 ar5 rk0_5_0 (by decide) rfl rfl (X_write_pay hg16) <| ans1 <| Runs.pop d0_107 rfl <| Runs.goto (pc' := 223) d0_108 (by decide) <| Runs.iinc (P' := [vr sa, vi i1, vr C.2.2.1, vi (i3 + (3 : Int32)), vi i4, vi i5, vi i6, vi i7]) d0_223 ci_3 rfl (by decide) rfl <| Runs.goto (pc' := 38) d0_226 (by decide) <| Runs.forget [true, true, true, true, false, false, false, false] rfl <| hk38 q15 i1 (i3 + (3 : Int32)) hf
  · refine Runs.ifY (pc' := 111) d0_88 (feq hc13).2 (by decide) <| ?_
    refine Runs.iload d0_111 rfl <| Runs.iconst d0_113 ci_1 <| ?_
    refine ite_el hf (fun hc17 hf => ?_) (fun hc17 hf => ?_)
    · refine Runs.icN d0_114 (teq hc17).2 <| ?_
      refine Runs.aloadN d0_117 rfl <| ?_
      refine bind2_el hf fun r18 q19 hg20 hf => ?_
      exact Runs.callV (N := B3) (W := 0) (as := []) (S' := []) d0_118 w44 w45 w46 w47 cw3 ar3 rk0_3_0 (by decide) rfl rfl (X_crash_pay hg20) <| ans1 <| Runs.pop d0_121 rfl <| Runs.goto (pc' := 223) d0_122 (by decide) <| Runs.iinc (P' := [vr sa, vi i1, vr C.2.2.1, vi (i3 + (3 : Int32)), vi i4, vi i5, vi i6, vi i7]) d0_223 ci_3 rfl (by decide) rfl <| Runs.goto (pc' := 38) d0_226 (by decide) <| Runs.forget [true, true, true, true, false, false, false, false] rfl <| hk38 q19 i1 (i3 + (3 : Int32)) hf
    · refine Runs.icY (pc' := 125) d0_114 (feq hc17).2 (by decide) <| ?_
      refine Runs.iload d0_125 rfl <| Runs.iconst d0_127 ci_2 <| ?_
      refine ite_el hf (fun hc21 hf => ?_) (fun hc21 hf => ?_)
      · refine Runs.icN d0_128 (teq hc21).2 <| ?_
        refine Runs.aloadN d0_131 rfl <| ?_
        refine bind2_el hf fun r22 q23 hg24 hf => ?_
        exact Runs.callV (N := B7) (W := 0) (as := []) (S' := []) d0_132 w63 w64 w65 w66 cw7 ar7 rk0_7_0 (by decide) rfl rfl (X_restart_pay hg24) <| ans1 <| Runs.pop d0_135 rfl <| Runs.goto (pc' := 223) d0_136 (by decide) <| Runs.iinc (P' := [vr sa, vi i1, vr C.2.2.1, vi (i3 + (3 : Int32)), vi i4, vi i5, vi i6, vi i7]) d0_223 ci_3 rfl (by decide) rfl <| Runs.goto (pc' := 38) d0_226 (by decide) <| Runs.forget [true, true, true, true, false, false, false, false] rfl <| hk38 q23 i1 (i3 + (3 : Int32)) hf
      · refine Runs.icY (pc' := 139) d0_128 (feq hc21).2 (by decide) <| ?_
        refine Runs.iload d0_139 rfl <| Runs.iconst d0_141 ci_3 <| ?_
        refine ite_el hf (fun hc25 hf => ?_) (fun hc25 hf => ?_)
        · refine Runs.icN d0_142 (teq hc25).2 <| ?_
          refine Runs.aloadN d0_145 rfl <| Runs.iload d0_146 rfl <| ?_
          refine bind2_el hf fun r26 q27 hg28 hf => ?_
          exact Runs.callV (N := B6) (W := 0) (as := [.int i7]) (S' := []) d0_148 w58 w59 w60 w61 cw6 ar6 rk0_6_0 (by decide) rfl rfl (X_failLeg_pay hg28) <| ans1 <| Runs.pop d0_151 rfl <| Runs.goto (pc' := 223) d0_152 (by decide) <| Runs.iinc (P' := [vr sa, vi i1, vr C.2.2.1, vi (i3 + (3 : Int32)), vi i4, vi i5, vi i6, vi i7]) d0_223 ci_3 rfl (by decide) rfl <| Runs.goto (pc' := 38) d0_226 (by decide) <| Runs.forget [true, true, true, true, false, false, false, false] rfl <| hk38 q27 i1 (i3 + (3 : Int32)) hf
        · refine Runs.icY (pc' := 155) d0_142 (feq hc25).2 (by decide) <| ?_
          refine Runs.iload d0_155 rfl <| Runs.iconst d0_157 ci_4 <| ?_
          refine ite_el hf (fun hc29 hf => ?_) (fun hc29 hf => ?_)
          · refine Runs.icN d0_158 (teq hc29).2 <| ?_
            refine Runs.aloadN d0_161 rfl <| Runs.iload d0_162 rfl <| ?_
            refine bind2_el hf fun r30 q31 hg32 hf => ?_
            exact Runs.callV (N := B23) (W := 0) (as := [.int i7]) (S' := []) d0_164 w136 w137 w138 w139 cw23 ar23 rk0_23_0 (by decide) rfl rfl (X_reattachLeg_pay hg32) <| ans1 <| Runs.pop d0_167 rfl <| Runs.goto (pc' := 223) d0_168 (by decide) <| Runs.iinc (P' := [vr sa, vi i1, vr C.2.2.1, vi (i3 + (3 : Int32)), vi i4, vi i5, vi i6, vi i7]) d0_223 ci_3 rfl (by decide) rfl <| Runs.goto (pc' := 38) d0_226 (by decide) <| Runs.forget [true, true, true, true, false, false, false, false] rfl <| hk38 q31 i1 (i3 + (3 : Int32)) hf
          · refine Runs.icY (pc' := 171) d0_158 (feq hc29).2 (by decide) <| ?_
            refine Runs.iload d0_171 rfl <| Runs.iconst d0_173 ci_5 <| ?_
            refine ite_el hf (fun hc33 hf => ?_) (fun hc33 hf => ?_)
            · refine Runs.icN d0_174 (teq hc33).2 <| ?_
              refine Runs.aloadN d0_177 rfl <| Runs.iload d0_178 rfl <| ?_
              refine bind2_el hf fun r34 q35 hg36 hf => ?_
              exact Runs.callV (N := B28) (W := 0) (as := [.int i7]) (S' := []) d0_180 w157 w158 w159 w160 cw28 ar28 rk0_28_0 (by decide) rfl rfl (X_replaceLeg_pay hg36) <| ans1 <| Runs.pop d0_183 rfl <| Runs.goto (pc' := 223) d0_184 (by decide) <| Runs.iinc (P' := [vr sa, vi i1, vr C.2.2.1, vi (i3 + (3 : Int32)), vi i4, vi i5, vi i6, vi i7]) d0_223 ci_3 rfl (by decide) rfl <| Runs.goto (pc' := 38) d0_226 (by decide) <| Runs.forget [true, true, true, true, false, false, false, false] rfl <| hk38 q35 i1 (i3 + (3 : Int32)) hf
            · refine Runs.icY (pc' := 187) d0_174 (feq hc33).2 (by decide) <| ?_
              refine Runs.iload d0_187 rfl <| Runs.bipush d0_189 cb_6 <| ?_
              refine ite_el hf (fun hc37 hf => ?_) (fun hc37 hf => ?_)
              · refine Runs.icN d0_191 (teq hc37).2 <| ?_
                refine Runs.aloadN d0_194 rfl <| ?_
                refine bind2_el hf fun r38 q39 hg40 hf => ?_
                exact Runs.callV (N := B18) (W := 0) (as := []) (S' := []) d0_195 w113 w114 w115 w116 cw18 ar18 rk0_18_0 (by decide) rfl rfl (X_resync_pay hg40) <| ans1 <| Runs.pop d0_198 rfl <| Runs.goto (pc' := 223) d0_199 (by decide) <| Runs.iinc (P' := [vr sa, vi i1, vr C.2.2.1, vi (i3 + (3 : Int32)), vi i4, vi i5, vi i6, vi i7]) d0_223 ci_3 rfl (by decide) rfl <| Runs.goto (pc' := 38) d0_226 (by decide) <| Runs.forget [true, true, true, true, false, false, false, false] rfl <| hk38 q39 i1 (i3 + (3 : Int32)) hf
              · refine Runs.icY (pc' := 202) d0_191 (feq hc37).2 (by decide) <| ?_
                refine Runs.iload d0_202 rfl <| Runs.bipush d0_204 cb_15 <| ?_
                refine ite_el hf (fun hc41 hf => ?_) (fun hc41 hf => ?_)
                · refine Runs.icN d0_206 (teq hc41).2 <| ?_
                  refine Runs.aloadN d0_209 rfl <| ?_
                  refine bind2_el hf fun r42 q43 hg44 hf => ?_
                  refine Runs.callS (N := B11) (W := 0) (as := [.ref C.2.2.1]) (S' := []) d0_210 w81 w82 cw11 ar11 rk0_11_0 (by decide) rfl rfl (L_relation_pay hg44) <| ans1 <| ?_
                  refine ite_el hf (fun hc45 hf => ?_) (fun hc45 hf => ?_)
                  · refine Runs.ifN d0_213 (teq hc45).2 <| ?_
                    obtain rfl := Option.some.inj hf
                    exact Runs.iconst d0_216 ci_0 <| Runs.retZ (y := (0 : Int32)) d0_217 rfl ⟨by decide, by decide⟩ rfl rfl
                  · refine Runs.ifY (pc' := 223) d0_213 (feq hc45).2 (by decide) <| ?_
                    exact Runs.iinc (P' := [vr sa, vi i1, vr C.2.2.1, vi (i3 + (3 : Int32)), vi i4, vi i5, vi i6, vi i7]) d0_223 ci_3 rfl (by decide) rfl <| Runs.goto (pc' := 38) d0_226 (by decide) <| Runs.forget [true, true, true, true, false, false, false, false] rfl <| hk38 q43 i1 (i3 + (3 : Int32)) hf
                · refine Runs.icY (pc' := 218) d0_206 (feq hc41).2 (by decide) <| ?_
                  refine Runs.aloadN d0_218 rfl <| ?_
                  refine bind2_el hf fun r46 q47 hg48 hf => ?_
                  exact Runs.callV (N := B22) (W := 0) (as := []) (S' := []) d0_219 w131 w132 w133 w134 cw22 ar22 rk0_22_0 (by decide) rfl rfl (X_step_pay hg48) <| ans1 <| Runs.pop d0_222 rfl <| Runs.iinc (P' := [vr sa, vi i1, vr C.2.2.1, vi (i3 + (3 : Int32)), vi i4, vi i5, vi i6, vi i7]) d0_223 ci_3 rfl (by decide) rfl <| Runs.goto (pc' := 38) d0_226 (by decide) <| Runs.forget [true, true, true, true, false, false, false, false] rfl <| hk38 q47 i1 (i3 + (3 : Int32)) hf
def L_law_w38 (NF : Nat) (z : Int32) (f : Int32 → Int32) (k38 : Rec → Int32 → Int32 → Option (Int32)) (ob : Rec) (i1 : Int32) (i3 : Int32) : Option (Int32) :=
  if (i3 + (2 : Int32)) < i1 then
    chk z i3 <|
    chk z (i3 + (1 : Int32)) <|
    chk z (i3 + (2 : Int32)) <|
    if ((f (i3 + (1 : Int32))) &&& (7 : Int32)) < (3 : Int32) then
      L_law_b86 NF z f k38 ob i1 i3 ((f i3) &&& (15 : Int32)) (f (i3 + (1 : Int32))) (f (i3 + (2 : Int32))) ((f (i3 + (1 : Int32))) &&& (7 : Int32))
    else
      L_law_b86 NF z f k38 ob i1 i3 ((f i3) &&& (15 : Int32)) (f (i3 + (1 : Int32))) (f (i3 + (2 : Int32))) (((f (i3 + (1 : Int32))) &&& (7 : Int32)) &&& (1 : Int32))
  else
    bind2 (L_relation NF ob) fun r10 q11 =>
    some (r10 &&& 1)
def L_law_l38 (NF : Nat) (z : Int32) (f : Int32 → Int32) : Nat → Rec → Int32 → Int32 → Option (Int32)
  | 0, _, _, _ => none
  | n + 1, ob, i1, i3 => L_law_w38 NF z f (L_law_l38 NF z f n) ob i1 i3
set_option maxRecDepth 65536 in
set_option maxHeartbeats 4000000 in
theorem L_law_w38_p {C : Ctx} {sa : Nat} {z : Int32} {f : Int32 → Int32} (hs : ScrF C sa z f) {res : Int32} {NF : Nat} (k38 : Rec → Int32 → Int32 → Option (Int32)) (hk38 : ∀ (ob : Rec) (i1 : Int32) (i3 : Int32), k38 ob i1 i3 = some res → Runs C B0 7 209 38 [vr sa, vi i1, vr C.2.2.1, vi i3, vn, vn, vn, vn] [] (C.2.2.1 + 1 + 6, (C.2.2.1, 6, ob) :: []) (fun v _ => v = (some (.int res)))) (ob : Rec) (i1 : Int32) (i3 : Int32) (hf : L_law_w38 NF z f k38 ob i1 i3 = some res) : Runs C B0 7 209 38 [vr sa, vi i1, vr C.2.2.1, vi i3, vn, vn, vn, vn] [] (C.2.2.1 + 1 + 6, (C.2.2.1, 6, ob) :: []) (fun v _ => v = (some (.int res))) := by
  delta L_law_w38 at hf
  refine Runs.iloadN d0_38 rfl <| Runs.iconst d0_39 ci_2 <| Runs.iadd d0_40 <| Runs.iloadN d0_41 rfl <| ?_
  refine ite_el hf (fun hc5 hf => ?_) (fun hc5 hf => ?_)
  · refine Runs.icN d0_42 (tlt hc5).2.1 <| ?_
    refine Runs.aloadN d0_45 rfl <| Runs.iloadN d0_46 rfl <| ?_
    refine chk_el hf fun hi6 hf => ?_
    refine Runs.ialoadS hs d0_47 hi6 <| Runs.bipush d0_48 cb_15 <| Runs.iand d0_50 <| Runs.istore (P' := [vr sa, vi i1, vr C.2.2.1, vi i3, vi ((f i3) &&& (15 : Int32)), vn, vn, vn]) d0_51 (by decide) rfl <| Runs.aloadN d0_53 rfl <| Runs.iloadN d0_54 rfl <| Runs.iconst d0_55 ci_1 <| Runs.iadd d0_56 <| ?_
    refine chk_el hf fun hi7 hf => ?_
    refine Runs.ialoadS hs d0_57 hi7 <| Runs.istore (P' := [vr sa, vi i1, vr C.2.2.1, vi i3, vi ((f i3) &&& (15 : Int32)), vi (f (i3 + (1 : Int32))), vn, vn]) d0_58 (by decide) rfl <| Runs.aloadN d0_60 rfl <| Runs.iloadN d0_61 rfl <| Runs.iconst d0_62 ci_2 <| Runs.iadd d0_63 <| ?_
    refine chk_el hf fun hi8 hf => ?_
    refine Runs.ialoadS hs d0_64 hi8 <| Runs.istore (P' := [vr sa, vi i1, vr C.2.2.1, vi i3, vi ((f i3) &&& (15 : Int32)), vi (f (i3 + (1 : Int32))), vi (f (i3 + (2 : Int32))), vn]) d0_65 (by decide) rfl <| Runs.iload d0_67 rfl <| Runs.bipush d0_69 cb_7 <| Runs.iand d0_71 <| Runs.istore (P' := [vr sa, vi i1, vr C.2.2.1, vi i3, vi ((f i3) &&& (15 : Int32)), vi (f (i3 + (1 : Int32))), vi (f (i3 + (2 : Int32))), vi ((f (i3 + (1 : Int32))) &&& (7 : Int32))]) d0_72 (by decide) rfl <| Runs.iload d0_74 rfl <| Runs.iconst d0_76 ci_3 <| ?_
    refine ite_el hf (fun hc9 hf => ?_) (fun hc9 hf => ?_)
    · exact Runs.icY (pc' := 86) d0_77 (tlt hc9).1 (by decide) <| L_law_b86_p hs k38 hk38 ob i1 i3 ((f i3) &&& (15 : Int32)) (f (i3 + (1 : Int32))) (f (i3 + (2 : Int32))) ((f (i3 + (1 : Int32))) &&& (7 : Int32)) hf
    · refine Runs.icN d0_77 (flt hc9).1 <| ?_
      exact Runs.iload d0_80 rfl <| Runs.iconst d0_82 ci_1 <| Runs.iand d0_83 <| Runs.istore (P' := [vr sa, vi i1, vr C.2.2.1, vi i3, vi ((f i3) &&& (15 : Int32)), vi (f (i3 + (1 : Int32))), vi (f (i3 + (2 : Int32))), vi (((f (i3 + (1 : Int32))) &&& (7 : Int32)) &&& (1 : Int32))]) d0_84 (by decide) rfl <| L_law_b86_p hs k38 hk38 ob i1 i3 ((f i3) &&& (15 : Int32)) (f (i3 + (1 : Int32))) (f (i3 + (2 : Int32))) (((f (i3 + (1 : Int32))) &&& (7 : Int32)) &&& (1 : Int32)) hf
  · refine Runs.icY (pc' := 229) d0_42 (flt hc5).2.1 (by decide) <| ?_
    refine Runs.aloadN d0_229 rfl <| ?_
    refine bind2_el hf fun r10 q11 hg12 hf => ?_
    obtain rfl := Option.some.inj hf
    exact Runs.callS (N := B11) (W := 0) (as := [.ref C.2.2.1]) (S' := []) d0_230 w81 w82 cw11 ar11 rk0_11_0 (by decide) rfl rfl (L_relation_pay hg12) <| ans1 <| Runs.retZ (y := (r10 &&& 1)) d0_233 rfl ⟨by decide, by decide⟩ rfl rfl
theorem L_law_l38_p {C : Ctx} {sa : Nat} {z : Int32} {f : Int32 → Int32} (hs : ScrF C sa z f) {res : Int32} {NF : Nat} (n : Nat) (ob : Rec) (i1 : Int32) (i3 : Int32) (hf : L_law_l38 NF z f n ob i1 i3 = some res) : Runs C B0 7 209 38 [vr sa, vi i1, vr C.2.2.1, vi i3, vn, vn, vn, vn] [] (C.2.2.1 + 1 + 6, (C.2.2.1, 6, ob) :: []) (fun v _ => v = (some (.int res))) := by
  induction n generalizing ob i1 i3 with
  | zero => cases (show (none : Option (Int32)) = some res from hf)
  | succ n ih => exact L_law_w38_p hs (L_law_l38 NF z f n) (fun ob i1 i3 h => ih _ _ _ h) ob i1 i3 hf
def L_law_b32 (NF : Nat) (z : Int32) (f : Int32 → Int32) (i1 : Int32) (t2 : Int32) (t3 : Int32) (t4 : Int32) : Option (Int32) :=
  (X_init t2 t3 t4).bind fun q3 =>
  L_law_l38 NF z f NF q3 i1 (2 : Int32)
set_option maxRecDepth 65536 in
set_option maxHeartbeats 4000000 in
theorem L_law_b32_p {C : Ctx} {sa : Nat} {z : Int32} {f : Int32 → Int32} (hs : ScrF C sa z f) {res : Int32} {NF : Nat} (i1 : Int32) (t2 : Int32) (t3 : Int32) (t4 : Int32) (hf : L_law_b32 NF z f i1 t2 t3 t4 = some res) : Runs C B0 1 15 32 [vr sa, vi i1, vn, vn, vn, vn, vn, vn] [.int t4, .int t3, .int t2, .ref C.2.2.1, .ref C.2.2.1] (C.2.2.1 + 1, (C.2.2.1, 0, zrec) :: []) (fun v _ => v = (some (.int res))) := by
  delta L_law_b32 at hf
  refine bind_el hf fun q3 hg4 hf => ?_
  exact Runs.callI (N := B1) (k' := 7) (n' := 209) (W := 1) (as := [.int t2, .int t3, .int t4]) (S' := [.ref C.2.2.1]) d0_32 rfl rfl w3 w4 cw1 ar1 (by decide) rfl rfl rfl rfl (X_init_pay hg4) <| ans0 <| Runs.astoreN (P' := [vr sa, vi i1, vr C.2.2.1, vn, vn, vn, vn, vn]) d0_35 (by decide) rfl <| Runs.iconst d0_36 ci_2 <| Runs.istoreN (P' := [vr sa, vi i1, vr C.2.2.1, vi (2 : Int32), vn, vn, vn, vn]) d0_37 (by decide) rfl <| L_law_l38_p hs NF q3 i1 (2 : Int32) hf
def L_law_b20 (NF : Nat) (z : Int32) (f : Int32 → Int32) (i1 : Int32) (t2 : Int32) (t3 : Int32) : Option (Int32) :=
  if (1 : Int32) < i1 then
    chk z (1 : Int32) <|
    L_law_b32 NF z f i1 t2 t3 (f (1 : Int32))
  else
    L_law_b32 NF z f i1 t2 t3 (0 : Int32)
set_option maxRecDepth 65536 in
set_option maxHeartbeats 4000000 in
theorem L_law_b20_p {C : Ctx} {sa : Nat} {z : Int32} {f : Int32 → Int32} (hs : ScrF C sa z f) {res : Int32} {NF : Nat} (i1 : Int32) (t2 : Int32) (t3 : Int32) (hf : L_law_b20 NF z f i1 t2 t3 = some res) : Runs C B0 1 15 20 [vr sa, vi i1, vn, vn, vn, vn, vn, vn] [.int t3, .int t2, .ref C.2.2.1, .ref C.2.2.1] (C.2.2.1 + 1, (C.2.2.1, 0, zrec) :: []) (fun v _ => v = (some (.int res))) := by
  delta L_law_b20 at hf
  refine Runs.iloadN d0_20 rfl <| Runs.iconst d0_21 ci_1 <| ?_
  refine ite_el hf (fun hc1 hf => ?_) (fun hc1 hf => ?_)
  · refine Runs.icN d0_22 (tlt hc1).2.2.2 <| ?_
    refine Runs.aloadN d0_25 rfl <| Runs.iconst d0_26 ci_1 <| ?_
    refine chk_el hf fun hi2 hf => ?_
    exact Runs.ialoadS hs d0_27 hi2 <| Runs.goto (pc' := 32) d0_28 (by decide) <| L_law_b32_p hs i1 t2 t3 (f (1 : Int32)) hf
  · refine Runs.icY (pc' := 31) d0_22 (flt hc1).2.2.2 (by decide) <| ?_
    exact Runs.iconst d0_31 ci_0 <| L_law_b32_p hs i1 t2 t3 (0 : Int32) hf
def L_law (NF : Nat) (z : Int32) (f : Int32 → Int32) : Option (Int32) :=
  if (0 : Int32) < z then
    chk z (0 : Int32) <|
    L_law_b20 NF z f z (12 : Int32) (f (0 : Int32))
  else
    L_law_b20 NF z f z (12 : Int32) (1 : Int32)
set_option maxRecDepth 65536 in
set_option maxHeartbeats 4000000 in
theorem L_law_p {C : Ctx} {sa : Nat} {z : Int32} {f : Int32 → Int32} (hs : ScrF C sa z f) {res : Int32} {NF : Nat} (hf : L_law NF z f = some res) : Runs C B0 0 0 0 [vr sa, vn, vn, vn, vn, vn, vn, vn] [] (C.2.2.1, []) (fun v _ => v = (some (.int res))) := by
  delta L_law at hf
  refine Runs.aloadN d0_0 rfl <| Runs.lenS hs d0_1 <| Runs.istoreN (P' := [vr sa, vi z, vn, vn, vn, vn, vn, vn]) d0_2 (by decide) rfl <| Runs.newK (k' := 1) (n' := 15) d0_3 w0 ⟨by decide, by decide⟩ rfl rfl (by intro x hx; cases hx) <| Runs.dup d0_6 rfl <| Runs.bipush d0_7 cb_12 <| Runs.iloadN d0_9 rfl <| ?_
  refine ite_el hf (fun hc49 hf => ?_) (fun hc49 hf => ?_)
  · refine Runs.ifN d0_10 (tlt hc49).2.2.2 <| ?_
    refine Runs.aloadN d0_13 rfl <| Runs.iconst d0_14 ci_0 <| ?_
    refine chk_el hf fun hi50 hf => ?_
    exact Runs.ialoadS hs d0_15 hi50 <| Runs.goto (pc' := 20) d0_16 (by decide) <| L_law_b20_p hs z (12 : Int32) (f (0 : Int32)) hf
  · refine Runs.ifY (pc' := 19) d0_10 (flt hc49).2.2.2 (by decide) <| ?_
    exact Runs.iconst d0_19 ci_1 <| L_law_b20_p hs z (12 : Int32) (1 : Int32) hf
theorem L_law_pay {C : Ctx} {sa : Nat} {z : Int32} {f : Int32 → Int32} (hs : ScrF C sa z f) {res : Int32} {NF : Nat} (hf : L_law NF z f = some res) : Pays C B0 [.ref sa] (C.2.2.1, []) (fun v _ => v = (some (.int res))) :=
  Pays.of pnL (Nat.le_of_ble_eq_true rfl) (P := [vr sa, vn, vn, vn, vn, vn, vn, vn]) 7 rfl (L_law_p hs hf)
--OWED--
theorem gI_sI (ob : Rec) (k j : Nat) (v : Int32) : gI (sI ob k v) j = if j = k then v else gI ob j := rfl
theorem gI_sA (ob : Rec) (k j : Nat) (i v : Int32) : gI (sA ob k i v) j = gI ob j := rfl
theorem gI_sJ (ob : Rec) (k j : Nat) (i : Int32) (v : Int64) : gI (sJ ob k i v) j = gI ob j := rfl
theorem gA_sI (ob : Rec) (k j : Nat) (v x : Int32) : gA (sI ob k v) j x = gA ob j x := rfl
theorem gA_sA (ob : Rec) (k j : Nat) (i v x : Int32) : gA (sA ob k i v) j x = if j = k ∧ x = i then v else gA ob j x := rfl
theorem gA_sJ (ob : Rec) (k j : Nat) (i x : Int32) (v : Int64) : gA (sJ ob k i v) j x = gA ob j x := rfl
theorem gJ_sI (ob : Rec) (k j : Nat) (v x : Int32) : gJ (sI ob k v) j x = gJ ob j x := rfl
theorem gJ_sA (ob : Rec) (k j : Nat) (i v x : Int32) : gJ (sA ob k i v) j x = gJ ob j x := rfl
theorem gJ_sJ (ob : Rec) (k j : Nat) (i x : Int32) (v : Int64) : gJ (sJ ob k i v) j x = if j = k ∧ x = i then v else gJ ob j x := rfl
theorem gI_z (k : Nat) : gI zrec k = 0 := rfl
theorem gA_z (k : Nat) (i : Int32) : gA zrec k i = 0 := rfl
theorem gJ_z (k : Nat) (i : Int32) : gJ zrec k i = 0 := rfl
theorem chk_ok {γ : Type} {n i : Int32} {A : Option γ} (h : 0 ≤ i.toInt ∧ i.toInt < n.toInt) : chk n i A = A := by
  have h0 : ¬ i < 0 := by rw [Int32.lt_iff_toInt_lt]; show ¬ i.toInt < 0; omega
  have h1 : i < n := by rw [Int32.lt_iff_toInt_lt]; exact h.2
  unfold chk; rw [if_neg h0, if_pos h1]
theorem lt_i {x y : Int32} : x < y ↔ x.toInt < y.toInt := Int32.lt_iff_toInt_lt
theorem le_i {x y : Int32} : x ≤ y ↔ x.toInt ≤ y.toInt := Int32.le_iff_toInt_le
theorem eq_i32 {x y : Int32} : x = y ↔ x.toInt = y.toInt := Int32.toInt_inj.symm
theorem bm_id {n : Int} (h : -2147483648 ≤ n ∧ n < 2147483648) : n.bmod (2 ^ 32) = n := Int.bmod_eq_of_le (by omega) (by omega)
theorem ad {x y : Int32} (h : -2147483648 ≤ x.toInt + y.toInt ∧ x.toInt + y.toInt < 2147483648) : (x + y).toInt = x.toInt + y.toInt := by rw [Int32.toInt_add, bm_id h]
theorem sb {x y : Int32} (h : -2147483648 ≤ x.toInt - y.toInt ∧ x.toInt - y.toInt < 2147483648) : (x - y).toInt = x.toInt - y.toInt := by rw [Int32.toInt_sub, bm_id h]
theorem ml {x y : Int32} (h : -2147483648 ≤ x.toInt * y.toInt ∧ x.toInt * y.toInt < 2147483648) : (x * y).toInt = x.toInt * y.toInt := by rw [Int32.toInt_mul, bm_id h]
theorem bind2_some {α β γ : Type} (a : α) (b : β) (f : α → β → Option γ) : bind2 (some (a, b)) f = f a b := rfl
/- fields of a long: the w bits at p hold v -/
def fb (l : Int64) (p w : Nat) (v : Int32) : Prop := ∀ i, i < w → l.toBitVec.getLsbD (p + i) = v.toBitVec.getLsbD i
theorem v_hi {v : Int32} {w : Nat} (h : 0 ≤ v.toInt ∧ v.toInt < 2 ^ w) (hw : w ≤ 30) (i : Nat) (hi : w ≤ i) : v.toBitVec.getLsbD i = false := by
  have e : v.toBitVec.toNat < 2 ^ w := by
    have h1 : v.toInt = v.toBitVec.toInt := rfl
    have h2 := v.toBitVec.isLt
    have hp : (2 : Nat) ^ w ≤ 2 ^ 30 := Nat.pow_le_pow_right (by omega) hw
    have hp' : ((2 ^ w : Nat) : Int) = 2 ^ w := by simp
    rw [h1, BitVec.toInt_eq_toNat_cond] at h
    split at h
    · omega
    · omega
  rw [← BitVec.testBit_toNat]
  exact Nat.testBit_lt_two_pow (Nat.lt_of_lt_of_le e (Nat.pow_le_pow_right (by omega) hi))
theorem v_64 {v : Int32} (h : 0 ≤ v.toInt) (i : Nat) : v.toInt64.toBitVec.getLsbD i = v.toBitVec.getLsbD i := by
  have m : v.toBitVec.msb = false := by
    cases c : v.toBitVec.msb
    · rfl
    · have : v.toBitVec.toInt < 0 := BitVec.toInt_neg_of_msb_true c
      have h1 : v.toInt = v.toBitVec.toInt := rfl
      omega
  show (v.toBitVec.signExtend 64).getLsbD i = _
  rw [BitVec.getLsbD_signExtend, m]
  by_cases c : i < 32
  · have c' : i < 64 := by omega
    simp [c, c']
  · rw [BitVec.getLsbD_of_ge v.toBitVec i (by omega)]; simp [c]
theorem fb_or (l : Int64) (v : Int32) (s : Int64) (p w : Nat) (hs : (s.toBitVec.smod 64).toNat = p) (hv : 0 ≤ v.toInt ∧ v.toInt < 2 ^ w) (hw : w ≤ 30) (hp : p + w ≤ 64) : (fb l p w 0 → fb (l ||| (v.toInt64 <<< s)) p w v) ∧ (∀ p' v', fb l p' w v' → (p' + w ≤ p ∨ p + w ≤ p') → fb (l ||| (v.toInt64 <<< s)) p' w v') ∧ (∀ b, p + w ≤ b → (l ||| (v.toInt64 <<< s)).toBitVec.getLsbD b = l.toBitVec.getLsbD b) := by
  have e : ∀ b, (l ||| (v.toInt64 <<< s)).toBitVec.getLsbD b = (l.toBitVec.getLsbD b || (decide (b < 64) && !decide (b < p) && v.toBitVec.getLsbD (b - p))) := by
    intro b
    rw [Int64.toBitVec_or, BitVec.getLsbD_or, Int64.toBitVec_shiftLeft, BitVec.shiftLeft_eq', hs, BitVec.getLsbD_shiftLeft, v_64 hv.1]
  have z0 : ∀ i, (0 : Int32).toBitVec.getLsbD i = false := fun i => by
    show (0#32).getLsbD i = false
    simp
  have far : ∀ b, (b < p ∨ p + w ≤ b) → (l ||| (v.toInt64 <<< s)).toBitVec.getLsbD b = l.toBitVec.getLsbD b := by
    intro b hb
    rw [e]
    rcases hb with h | h
    · simp [h]
    · rw [v_hi hv hw (b - p) (by omega)]; simp
  refine ⟨fun h0 i hi => ?_, fun p' v' h' hd i hi => ?_, fun b hb => far b (Or.inr hb)⟩
  · have c1 : p + i < 64 := by omega
    have c2 : ¬ p + i < p := by omega
    have c3 : p + i - p = i := by omega
    rw [e, h0 i hi, z0, c3]
    simp [c1, c2]
  · rw [far (p' + i) (by omega)]; exact h' i hi
theorem fb_clr (l : Int64) (m s : Int64) (p w : Nat) (hs : (s.toBitVec.smod 64).toNat = p) (hm : ∀ i, m.toBitVec.getLsbD i = decide (i < w)) (hp : p + w ≤ 64) : fb (l &&& ((m <<< s) ^^^ -1)) p w 0 ∧ (∀ p' v', fb l p' w v' → (p' + w ≤ p ∨ p + w ≤ p') → p' + w ≤ 64 → fb (l &&& ((m <<< s) ^^^ -1)) p' w v') := by
  have a1 : (-1 : Int64).toBitVec = BitVec.allOnes 64 := by decide
  have e : ∀ b, b < 64 → (l &&& ((m <<< s) ^^^ -1)).toBitVec.getLsbD b = (l.toBitVec.getLsbD b && !(!decide (b < p) && decide (b - p < w))) := by
    intro b hb
    rw [Int64.toBitVec_and, BitVec.getLsbD_and, Int64.toBitVec_xor, BitVec.getLsbD_xor, a1, BitVec.getLsbD_allOnes, Int64.toBitVec_shiftLeft, BitVec.shiftLeft_eq', hs, BitVec.getLsbD_shiftLeft, hm]
    simp [hb]
  refine ⟨fun i hi => ?_, fun p' v' h' hd h64 i hi => ?_⟩
  · have c1 : p + i < 64 := by omega
    have c2 : ¬ p + i < p := by omega
    have c3 : p + i - p = i := by omega
    rw [e _ c1, c3]
    show _ = (0#32).getLsbD i
    simp [c2, hi]
  · have c1 : p' + i < 64 := by omega
    rw [e _ c1, h' i hi]
    rcases hd with h | h
    · have c : p' + i < p := by omega
      simp [c]
    · have c : ¬ p' + i - p < w := by omega
      simp [c]
theorem fb_get (l m : Int64) (s : UInt64) (v : Int32) (p w : Nat) (hs : (s.toBitVec % 64).toNat = p) (hm : ∀ i, m.toBitVec.getLsbD i = decide (i < w)) (hv : 0 ≤ v.toInt ∧ v.toInt < 2 ^ w) (hw : w ≤ 30) (h : fb l p w v) : ((l.toUInt64 >>> s).toInt64 &&& m).toInt32 = v := by
  apply Int32.toBitVec_inj.mp
  have e1 : ((l.toUInt64 >>> s).toInt64 &&& m).toBitVec = (l.toBitVec >>> p) &&& m.toBitVec := by
    rw [Int64.toBitVec_and]
    congr 1
    show (l.toUInt64 >>> s).toBitVec = _
    rw [UInt64.toBitVec_shiftRight, BitVec.ushiftRight_eq', hs]; rfl
  show ((l.toUInt64 >>> s).toInt64 &&& m).toBitVec.signExtend 32 = _
  rw [e1]
  apply BitVec.eq_of_getLsbD_eq
  intro i hi
  rw [BitVec.getLsbD_signExtend, BitVec.getLsbD_and, BitVec.getLsbD_ushiftRight, hm]
  have c64 : i < 64 := by omega
  by_cases c : i < w
  · rw [h i c]; simp [hi, c, c64]
  · rw [v_hi hv hw i (by omega)]; simp [c, c64]
theorem fb0 (p w : Nat) : fb 0 p w 0 := by
  intro i _
  show (0#64).getLsbD (p + i) = (0#32).getLsbD i
  simp
theorem fb_inj {l : Int64} {p w : Nat} {v v' : Int32} (hw : w ≤ 30) (hv : 0 ≤ v.toInt ∧ v.toInt < 2 ^ w) (hv' : 0 ≤ v'.toInt ∧ v'.toInt < 2 ^ w) (h : fb l p w v) (h' : fb l p w v') : v = v' := by
  apply Int32.toBitVec_inj.mp
  apply BitVec.eq_of_getLsbD_eq
  intro i hi
  by_cases c : i < w
  · rw [← h i c, h' i c]
  · rw [v_hi hv hw i (by omega), v_hi hv' hw i (by omega)]
theorem t0 : (0 : Int32).toInt = 0 := rfl
theorem t1 : (1 : Int32).toInt = 1 := rfl
theorem t2 : (2 : Int32).toInt = 2 := rfl
theorem t3 : (3 : Int32).toInt = 3 := rfl
theorem t32 : (32 : Int32).toInt = 32 := rfl
theorem t64 : (64 : Int32).toInt = 64 := rfl
theorem succ8 {i : Int32} (h : 0 ≤ i.toInt ∧ i.toInt < 1000) : (i + 1).toInt = i.toInt + 1 := by rw [ad (by rw [t1]; omega), t1]
def Kn (n x : Int32) : Prop := 0 ≤ x.toInt ∧ x.toInt < n.toInt
abbrev NN (n : Int32) : Prop := n ∈ ([8, 12] : List Int32)
abbrev RS (rs : Int32) : Prop := rs ∈ ([1, 2, 3, 4] : List Int32)
theorem tabM : ∀ n ∈ ([8, 12] : List Int32), ∀ rs ∈ ([1, 2, 3, 4] : List Int32), ∀ x ∈ ([0, 1, 2, 3, 4, 5, 6, 7, 8, 9, 10, 11] : List Int32), (x.toInt < n.toInt → (x / rs).toInt < ((n + rs - 1) / rs).toInt) ∧ 0 ≤ (x / rs).toInt ∧ (x / rs * rs).toInt ≤ x.toInt ∧ x.toInt < (x / rs * rs + rs).toInt ∧ 0 ≤ (x * rs).toInt ∧ ((n + rs - 1) / rs).toInt ≤ 12 ∧ 0 ≤ ((n + rs - 1) / rs).toInt ∧ ¬ rs = 0 ∧ (x / rs).toInt < 32 ∧ (8 ≤ n.toInt ∧ n.toInt ≤ 12) := by decide +kernel
theorem n_b {n : Int32} (hn : NN n) : 8 ≤ n.toInt ∧ n.toInt ≤ 12 := (tabM n hn 1 (by decide) 0 (by decide)).2.2.2.2.2.2.2.2.2
theorem m12 {x : Int32} (h0 : 0 ≤ x.toInt) (h1 : x.toInt < 12) : x ∈ ([0, 1, 2, 3, 4, 5, 6, 7, 8, 9, 10, 11] : List Int32) := by
  simp only [List.mem_cons, eq_i32, Int32.reduceToInt, List.not_mem_nil, or_false]
  omega
theorem kM {n x : Int32} (hn : NN n) (h : Kn n x) : x ∈ ([0, 1, 2, 3, 4, 5, 6, 7, 8, 9, 10, 11] : List Int32) := m12 h.1 (by have := n_b hn; have := h.2; omega)
/-- the legs' bases -/
def SD (s d : Int32) : Prop := (s = 0 ∧ d = 32) ∨ (s = 32 ∧ d = 0)
theorem bs {n s x : Int32} (hn : NN n) (hs : s = 0 ∨ s = 32) (h : Kn n x) : (s + x).toInt = s.toInt + x.toInt := by
  have := n_b hn; have := h.1; have := h.2
  rcases hs with rfl | rfl
  · rw [ad (by rw [t0]; omega)]
  · rw [ad (by rw [t32]; omega)]
theorem SD.l {s d : Int32} (h : SD s d) : s = 0 ∨ s = 32 := h.elim (fun h => Or.inl h.1) (fun h => Or.inr h.1)
theorem SD.r {s d : Int32} (h : SD s d) : d = 0 ∨ d = 32 := h.elim (fun h => Or.inr h.2) (fun h => Or.inl h.2)
theorem SD.ne {n s d x y : Int32} (h : SD s d) (hn : NN n) (hx : Kn n x) (hy : Kn n y) : ¬ s + x = d + y := by
  intro e
  have e1 := bs hn h.l hx
  rw [e, bs hn h.r hy] at e1
  have := n_b hn; have := hx.1; have := hx.2; have := hy.1; have := hy.2
  rcases h with ⟨rfl, rfl⟩ | ⟨rfl, rfl⟩
  · rw [t0, t32] at e1; omega
  · rw [t0, t32] at e1; omega
theorem bs_inj {n d x y : Int32} (hn : NN n) (hd : d = 0 ∨ d = 32) (hx : Kn n x) (hy : Kn n y) (e : d + x = d + y) : x = y := by
  have e1 := bs hn hd hx
  rw [e, bs hn hd hy] at e1
  exact eq_i32.mpr (by omega)
def Rl (n s d : Int32) (ob q : Rec) : Prop := q.1 = ob.1 ∧ (∀ (k : Nat) (x : Int32), ¬ k = 0 → gA q k x = gA ob k x) ∧ (∀ y : Int32, (∀ x, Kn n x → ¬ y = d + x) → gA q 0 y = gA ob 0 y) ∧ (∀ x : Int32, Kn n x → gA q 0 (d + x) = gA ob 0 (s + x) ∨ gA q 0 (d + x) = gA ob 0 (d + x))
theorem Rl.refl (n s d : Int32) (ob : Rec) : Rl n s d ob ob := ⟨rfl, fun _ _ _ => rfl, fun _ _ => rfl, fun _ _ => Or.inr rfl⟩
theorem Rl.src {n s d : Int32} {a b : Rec} (h : Rl n s d a b) (hn : NN n) (hsd : SD s d) {x : Int32} (hx : Kn n x) : gA b 0 (s + x) = gA a 0 (s + x) := h.2.2.1 (s + x) (fun y hy => hsd.ne hn hx hy)
theorem Rl.trans {n s d : Int32} {a b c : Rec} (h : Rl n s d a b) (g : Rl n s d b c) (hn : NN n) (hsd : SD s d) : Rl n s d a c := by
  refine ⟨g.1.trans h.1, fun k x hk => (g.2.1 k x hk).trans (h.2.1 k x hk), fun x hx => (g.2.2.1 x hx).trans (h.2.2.1 x hx), fun x hx => ?_⟩
  rcases g.2.2.2 x hx with e | e
  · exact Or.inl (e.trans (h.src hn hsd hx))
  · rcases h.2.2.2 x hx with e' | e'
    · exact Or.inl (e.trans e')
    · exact Or.inr (e.trans e')
theorem Rl.one (n s d : Int32) (ob : Rec) (i : Int32) (hn : NN n) (hsd : SD s d) (hi : Kn n i) : Rl n s d ob (sA ob 0 (d + i) (gA ob 0 (s + i))) := by
  refine ⟨rfl, fun k x hk => ?_, fun y hy => ?_, fun x hx => ?_⟩
  · rw [gA_sA, if_neg (fun h => hk h.1)]
  · rw [gA_sA, if_neg (fun h => hy i hi h.2)]
  · rw [gA_sA]
    by_cases c : x = i
    · rw [c, if_pos ⟨rfl, rfl⟩]; exact Or.inl rfl
    · rw [if_neg (fun h => c (bs_inj hn hsd.r hx hi h.2))]
      exact Or.inr rfl
theorem in_l (NF : Nat) (n s d : Int32) (hn : NN n) (hsd : SD s d) (k14 : Rec → Int32 → Int32 → Int32 → Option Rec) (i5 i7 : Int32) (h7 : i7.toInt ≤ n.toInt) : ∀ (m fuel : Nat) (ob : Rec) (i : Int32), m < fuel → 0 ≤ i.toInt → i7.toInt - i.toInt ≤ m → ∃ q, X_copyDirtyRegions_l73 NF k14 fuel ob s d i5 i7 i = k14 q s d (i5 + 1) ∧ Rl n s d ob q ∧ ∀ x, Kn n x → i.toInt ≤ x.toInt → x.toInt < i7.toInt → gA q 0 (d + x) = gA ob 0 (s + x) := by
  have nb := n_b hn
  intro m
  induction m with
  | zero =>
    intro fuel ob i hf h0 h2
    obtain ⟨n, rfl⟩ : ∃ n, fuel = n + 1 := ⟨fuel - 1, by omega⟩
    refine ⟨ob, ?_, Rl.refl _ _ _ ob, fun x _ a b => absurd b (by omega)⟩
    show X_copyDirtyRegions_w73 NF k14 _ ob s d i5 i7 i = _
    unfold X_copyDirtyRegions_w73; rw [if_neg (by rw [lt_i]; omega)]
  | succ m ih =>
    intro fuel ob i hf h0 h2
    obtain ⟨f, rfl⟩ : ∃ n, fuel = n + 1 := ⟨fuel - 1, by omega⟩
    by_cases hc : i.toInt < i7.toInt
    · have hi : Kn n i := ⟨h0, by omega⟩
      have ei := succ8 (i := i) (by omega)
      have es := bs hn hsd.l hi
      have ed := bs hn hsd.r hi
      obtain ⟨q, eq, q1, q2⟩ := ih f (sA ob 0 (d + i) (gA ob 0 (s + i))) (i + 1) (by omega) (by omega) (by omega)
      have r1 := Rl.one n s d ob i hn hsd hi
      have cs : 0 ≤ (s + i).toInt ∧ (s + i).toInt < 64 := by
        rcases hsd.l with rfl | rfl
        · rw [t0] at es; omega
        · rw [t32] at es; omega
      have cdd : 0 ≤ (d + i).toInt ∧ (d + i).toInt < 64 := by
        rcases hsd.r with rfl | rfl
        · rw [t0] at ed; omega
        · rw [t32] at ed; omega
      refine ⟨q, ?_, r1.trans q1 hn hsd, ?_⟩
      · rw [← eq]
        show X_copyDirtyRegions_w73 NF k14 _ ob s d i5 i7 i = _
        unfold X_copyDirtyRegions_w73; rw [if_pos (lt_i.mpr hc), chk_ok (by rw [t64]; exact cs), chk_ok (by rw [t64]; exact cdd)]
      · intro x hx a b
        by_cases c : x = i
        · rw [c]
          rcases q1.2.2.2 i hi with e | e
          · rw [e]; exact r1.src hn hsd hi
          · rw [e, gA_sA, if_pos ⟨rfl, rfl⟩]
        · have hne : x.toInt ≠ i.toInt := fun h => c (eq_i32.mpr h)
          rw [q2 x hx (by omega) b]
          exact r1.src hn hsd hx
    · refine ⟨ob, ?_, Rl.refl _ _ _ ob, fun x _ a b => absurd b (by omega)⟩
      show X_copyDirtyRegions_w73 NF k14 _ ob s d i5 i7 i = _
      unfold X_copyDirtyRegions_w73; rw [if_neg (by rw [lt_i]; omega)]
theorem out_l (NF : Nat) (hNF : 20 < NF) (n s d : Int32) (hn : NN n) (hsd : SD s d) (rs : Int32) (hrs : RS rs) : ∀ (m fuel : Nat) (ob : Rec) (i5 : Int32), m < fuel → 0 ≤ i5.toInt → ((n + rs - 1) / rs).toInt - i5.toInt ≤ m → gI ob 0 = n → gI ob 1 = rs → gI ob 3 = (n + rs - 1) / rs → ∃ q, X_copyDirtyRegions_l14 NF fuel ob s d i5 = some q ∧ Rl n s d ob q ∧ ∀ x, Kn n x → i5.toInt ≤ (x / rs).toInt → ¬ gA ob 3 (x / rs) = 0 → gA q 0 (d + x) = gA ob 0 (s + x) := by
  have nb := n_b hn
  have hT := fun x (h : Kn n x) => tabM n hn rs hrs x (kM hn h)
  intro m
  induction m with
  | zero =>
    intro fuel ob i5 hf h0 h2 g0 g1 g3
    obtain ⟨f, rfl⟩ : ∃ n, fuel = n + 1 := ⟨fuel - 1, by omega⟩
    refine ⟨ob, ?_, Rl.refl _ _ _ ob, fun x hx a _ => ?_⟩
    · show X_copyDirtyRegions_w14 NF _ ob s d i5 = _
      unfold X_copyDirtyRegions_w14; rw [g3, if_neg (by rw [lt_i]; omega)]
    · have := (hT x hx).1 hx.2; omega
  | succ m ih =>
    intro fuel ob i5 hf h0 h2 g0 g1 g3
    obtain ⟨f, rfl⟩ : ∃ n, fuel = n + 1 := ⟨fuel - 1, by omega⟩
    by_cases hc : i5.toInt < ((n + rs - 1) / rs).toInt
    · have hR := tabM n hn rs hrs 0 (by decide)
      have h5 := tabM n hn rs hrs i5 (m12 h0 (by omega))
      have ei := succ8 (i := i5) (by omega)
      have c5 : i5 < (n + rs - 1) / rs := lt_i.mpr hc
      by_cases cd : gA ob 3 i5 = 0
      · obtain ⟨q, eq, q1, q2⟩ := ih f ob (i5 + 1) (by omega) (by omega) (by omega) g0 g1 g3
        refine ⟨q, ?_, q1, fun x hx a b => ?_⟩
        · rw [← eq]
          show X_copyDirtyRegions_w14 NF _ ob s d i5 = _
          unfold X_copyDirtyRegions_w14; rw [g3, if_pos c5, chk_ok (by rw [t32]; omega), if_pos cd]
        · have hne : ¬ (x / rs) = i5 := fun h => b (by rw [h]; exact cd)
          have hne' : (x / rs).toInt ≠ i5.toInt := fun h => hne (eq_i32.mpr h)
          exact q2 x hx (by omega) b
      · obtain ⟨i7, h7, h7', e7⟩ : ∃ i7 : Int32, i7.toInt ≤ n.toInt ∧ (∀ x, Kn n x → x.toInt < (i5 * rs + rs).toInt → x.toInt < i7.toInt) ∧ X_copyDirtyRegions_l14 NF (f + 1) ob s d i5 = X_copyDirtyRegions_l73 NF (X_copyDirtyRegions_l14 NF f) NF ob s d i5 i7 (i5 * rs) := by
          by_cases c8 : n < i5 * rs + rs
          · refine ⟨n, by omega, fun x hx _ => hx.2, ?_⟩
            show X_copyDirtyRegions_w14 NF _ ob s d i5 = _
            unfold X_copyDirtyRegions_w14; rw [g3, if_pos c5, chk_ok (by rw [t32]; omega), if_neg cd, g0, g1, if_pos c8]
          · refine ⟨i5 * rs + rs, by rw [lt_i] at c8; omega, fun x hx h => h, ?_⟩
            show X_copyDirtyRegions_w14 NF _ ob s d i5 = _
            unfold X_copyDirtyRegions_w14; rw [g3, if_pos c5, chk_ok (by rw [t32]; omega), if_neg cd, g0, g1, if_neg c8]
        obtain ⟨p, ep, p1, p2⟩ := in_l NF n s d hn hsd (X_copyDirtyRegions_l14 NF f) i5 i7 h7 12 NF ob (i5 * rs) (by omega) h5.2.2.2.2.1 (by have := h5.2.2.2.2.1; omega)
        have pI : ∀ k, gI p k = gI ob k := fun k => by unfold gI; rw [p1.1]
        obtain ⟨q, eq, q1, q2⟩ := ih f p (i5 + 1) (by omega) (by omega) (by omega) ((pI 0).trans g0) ((pI 1).trans g1) ((pI 3).trans g3)
        refine ⟨q, e7.trans (ep.trans eq), p1.trans q1 hn hsd, fun x hx a b => ?_⟩
        by_cases hx5 : (x / rs).toInt = i5.toInt
        · have hx5' : x / rs = i5 := eq_i32.mpr hx5
          have tx := hT x hx
          rw [hx5'] at tx
          have ex := p2 x hx tx.2.2.1 (h7' x hx tx.2.2.2.1)
          rcases q1.2.2.2 x hx with e | e
          · rw [e]; exact p1.src hn hsd hx
          · rw [e]; exact ex
        · rw [q2 x hx (by omega) (by rw [p1.2.1 3 _ (by decide)]; exact b)]
          exact p1.src hn hsd hx
    · refine ⟨ob, ?_, Rl.refl _ _ _ ob, fun x hx a _ => ?_⟩
      · show X_copyDirtyRegions_w14 NF _ ob s d i5 = _
        unfold X_copyDirtyRegions_w14; rw [g3, if_neg (by rw [lt_i]; omega)]
      · have := (hT x hx).1 hx.2; omega
/-- only the bitmap's arrays are touched -/
def Bm (ob q : Rec) : Prop := q.1 = ob.1 ∧ ∀ (k : Nat) (x : Int32), k < 3 → gA q k x = gA ob k x
theorem Bm.refl (ob : Rec) : Bm ob ob := ⟨rfl, fun _ _ _ => rfl⟩
theorem Bm.trans {a b c : Rec} (h : Bm a b) (g : Bm b c) : Bm a c := ⟨g.1.trans h.1, fun k x hk => (g.2 k x hk).trans (h.2 k x hk)⟩
theorem Bm.n {a b : Rec} (h : Bm a b) (k : Nat) : gI b k = gI a k := by unfold gI; rw [h.1]
theorem Bm.set (ob : Rec) (i u v w : Int32) : Bm ob (sA (sA (sA ob 3 i u) 4 i v) 5 i w) := by
  refine ⟨rfl, fun k x hk => ?_⟩
  rw [gA_sA, if_neg (fun h => by have := h.1; omega), gA_sA, if_neg (fun h => by have := h.1; omega), gA_sA, if_neg (fun h => by have := h.1; omega)]
theorem cb_l (NF : Nat) : ∀ (m fuel : Nat) (ob : Rec) (i : Int32), m < fuel → 0 ≤ i.toInt → 32 - i.toInt ≤ m → ∃ q, X_clearBitmap_l2 NF fuel ob i = some q ∧ Bm ob q := by
  intro m
  induction m with
  | zero =>
    intro fuel ob i hf h0 h2
    obtain ⟨n, rfl⟩ : ∃ n, fuel = n + 1 := ⟨fuel - 1, by omega⟩
    refine ⟨ob, ?_, Bm.refl ob⟩
    show X_clearBitmap_w2 NF _ ob i = _
    unfold X_clearBitmap_w2; rw [if_neg (by rw [lt_i, t32]; omega)]
  | succ m ih =>
    intro fuel ob i hf h0 h2
    obtain ⟨n, rfl⟩ : ∃ n, fuel = n + 1 := ⟨fuel - 1, by omega⟩
    by_cases hc : i.toInt < 32
    · have ei := succ8 (i := i) (by omega)
      have c : ∀ A : Option Rec, chk 32 i A = A := fun A => chk_ok (by rw [t32]; omega)
      obtain ⟨q, eq, q1⟩ := ih n (sA (sA (sA ob 3 i 0) 4 i 0) 5 i 0) (i + 1) (by omega) (by omega) (by omega)
      refine ⟨q, ?_, (Bm.set ob i 0 0 0).trans q1⟩
      rw [← eq]
      show X_clearBitmap_w2 NF _ ob i = _
      unfold X_clearBitmap_w2; rw [if_pos (by rw [lt_i, t32]; omega), c, c, c]
    · refine ⟨ob, ?_, Bm.refl ob⟩
      show X_clearBitmap_w2 NF _ ob i = _
      unfold X_clearBitmap_w2; rw [if_neg (by rw [lt_i, t32]; omega)]
theorem ca_l (NF : Nat) (nR : Int32) (hR : nR.toInt ≤ 12) : ∀ (m fuel : Nat) (ob : Rec) (i : Int32), m < fuel → 0 ≤ i.toInt → nR.toInt - i.toInt ≤ m → gI ob 3 = nR → ∃ q, X_clearAged_l2 NF fuel ob i = some q ∧ Bm ob q := by
  intro m
  induction m with
  | zero =>
    intro fuel ob i hf h0 h2 g3
    obtain ⟨n, rfl⟩ : ∃ n, fuel = n + 1 := ⟨fuel - 1, by omega⟩
    refine ⟨ob, ?_, Bm.refl ob⟩
    show X_clearAged_w2 NF _ ob i = _
    unfold X_clearAged_w2; rw [g3, if_neg (by rw [lt_i]; omega)]
  | succ m ih =>
    intro fuel ob i hf h0 h2 g3
    obtain ⟨n, rfl⟩ : ∃ n, fuel = n + 1 := ⟨fuel - 1, by omega⟩
    by_cases hc : i.toInt < nR.toInt
    · have ei := succ8 (i := i) (by omega)
      have c : ∀ A : Option Rec, chk 32 i A = A := fun A => chk_ok (by rw [t32]; omega)
      have key : ∀ ob1, Bm ob ob1 → X_clearAged_l2 NF (n + 1) ob i = X_clearAged_l2 NF n ob1 (i + 1) → ∃ q, X_clearAged_l2 NF (n + 1) ob i = some q ∧ Bm ob q := by
        intro ob1 b1 e1
        obtain ⟨q, eq, q1⟩ := ih n ob1 (i + 1) (by omega) (by omega) (by omega) ((b1.n 3).trans g3)
        exact ⟨q, e1.trans eq, b1.trans q1⟩
      by_cases c1 : gA ob 3 i = 0
      · refine key ob (Bm.refl ob) ?_
        show X_clearAged_w2 NF _ ob i = _
        unfold X_clearAged_w2; rw [g3, if_pos (lt_i.mpr hc), c, if_pos c1]
      · by_cases c2 : gA ob 4 i = 0
        · refine key ob (Bm.refl ob) ?_
          show X_clearAged_w2 NF _ ob i = _
          unfold X_clearAged_w2; rw [g3, if_pos (lt_i.mpr hc), c, if_neg c1, c, if_pos c2]
        · by_cases c3 : gA ob 5 i < gI ob 2
          · refine key ob (Bm.refl ob) ?_
            show X_clearAged_w2 NF _ ob i = _
            unfold X_clearAged_w2; rw [g3, if_pos (lt_i.mpr hc), c, if_neg c1, c, if_neg c2, c, if_pos c3]
          · refine key _ (Bm.set ob i 0 0 0) ?_
            show X_clearAged_w2 NF _ ob i = _
            unfold X_clearAged_w2; rw [g3, if_pos (lt_i.mpr hc), c, if_neg c1, c, if_neg c2, c, if_neg c3, c, c, c]
    · refine ⟨ob, ?_, Bm.refl ob⟩
      show X_clearAged_w2 NF _ ob i = _
      unfold X_clearAged_w2; rw [g3, if_neg (by rw [lt_i]; omega)]
/-- all but array 5 -/
def Ag (ob q : Rec) : Prop := q.1 = ob.1 ∧ ∀ (k : Nat) (x : Int32), ¬ k = 5 → gA q k x = gA ob k x
theorem ao_l (NF : Nat) (nR r : Int32) (hR : nR.toInt ≤ 12) : ∀ (m fuel : Nat) (ob : Rec) (i : Int32), m < fuel → 0 ≤ i.toInt → nR.toInt - i.toInt ≤ m → gI ob 3 = nR → ∃ q, X_ageOthers_l2 NF fuel ob r i = some q ∧ Ag ob q := by
  intro m
  induction m with
  | zero =>
    intro fuel ob i hf h0 h2 g3
    obtain ⟨n, rfl⟩ : ∃ n, fuel = n + 1 := ⟨fuel - 1, by omega⟩
    refine ⟨ob, ?_, rfl, fun _ _ _ => rfl⟩
    show X_ageOthers_w2 NF _ ob r i = _
    unfold X_ageOthers_w2; rw [g3, if_neg (by rw [lt_i]; omega)]
  | succ m ih =>
    intro fuel ob i hf h0 h2 g3
    obtain ⟨n, rfl⟩ : ∃ n, fuel = n + 1 := ⟨fuel - 1, by omega⟩
    by_cases hc : i.toInt < nR.toInt
    · have ei := succ8 (i := i) (by omega)
      have c : ∀ A : Option Rec, chk 32 i A = A := fun A => chk_ok (by rw [t32]; omega)
      obtain ⟨q, eq, q1⟩ := ih n ob (i + 1) (by omega) (by omega) (by omega) g3
      by_cases c1 : i = r
      · refine ⟨q, ?_, q1⟩
        rw [← eq]
        show X_ageOthers_w2 NF _ ob r i = _
        unfold X_ageOthers_w2; rw [g3, if_pos (lt_i.mpr hc), if_pos c1]
      · by_cases c2 : gA ob 4 i = 0
        · refine ⟨q, ?_, q1⟩
          rw [← eq]
          show X_ageOthers_w2 NF _ ob r i = _
          unfold X_ageOthers_w2; rw [g3, if_pos (lt_i.mpr hc), if_neg c1, c, if_pos c2]
        · by_cases c3 : gA ob 5 i < gI ob 2
          · obtain ⟨q', eq', q1'⟩ := ih n (sA ob 5 i (gA ob 5 i + 1)) (i + 1) (by omega) (by omega) (by omega) g3
            refine ⟨q', ?_, q1'.1, fun k x hk => ?_⟩
            · rw [← eq']
              show X_ageOthers_w2 NF _ ob r i = _
              unfold X_ageOthers_w2; rw [g3, if_pos (lt_i.mpr hc), if_neg c1, c, if_neg c2, c, if_pos c3, c, c]
            · rw [q1'.2 k x hk, gA_sA, if_neg (fun h => hk h.1)]
          · refine ⟨q, ?_, q1⟩
            rw [← eq]
            show X_ageOthers_w2 NF _ ob r i = _
            unfold X_ageOthers_w2; rw [g3, if_pos (lt_i.mpr hc), if_neg c1, c, if_neg c2, c, if_neg c3]
    · refine ⟨ob, ?_, rfl, fun _ _ _ => rfl⟩
      show X_ageOthers_w2 NF _ ob r i = _
      unfold X_ageOthers_w2; rw [g3, if_neg (by rw [lt_i]; omega)]
theorem zl_l (NF : Nat) (n d : Int32) (hn : NN n) (hd : d = 0 ∨ d = 32) : ∀ (m fuel : Nat) (ob : Rec) (i : Int32), m < fuel → 0 ≤ i.toInt → n.toInt - i.toInt ≤ m → gI ob 0 = n → ∃ q, X_zeroLeg_l7 NF fuel ob d i = some q ∧ q.1 = ob.1 ∧ (∀ (k : Nat) (x : Int32), ¬ k = 0 → gA q k x = gA ob k x) ∧ (∀ y, (∀ x, Kn n x → ¬ y = d + x) → gA q 0 y = gA ob 0 y) ∧ (∀ x, Kn n x → x.toInt < i.toInt → gA q 0 (d + x) = gA ob 0 (d + x)) ∧ (∀ x, Kn n x → i.toInt ≤ x.toInt → gA q 0 (d + x) = 0) := by
  have nb := n_b hn
  intro m
  induction m with
  | zero =>
    intro fuel ob i hf h0 h2 g0
    obtain ⟨f, rfl⟩ : ∃ n, fuel = n + 1 := ⟨fuel - 1, by omega⟩
    refine ⟨ob, ?_, rfl, fun _ _ _ => rfl, fun _ _ => rfl, fun _ _ _ => rfl, fun x hx a => absurd hx.2 (by omega)⟩
    show X_zeroLeg_w7 NF _ ob d i = _
    unfold X_zeroLeg_w7; rw [g0, if_neg (by rw [lt_i]; omega)]
  | succ m ih =>
    intro fuel ob i hf h0 h2 g0
    obtain ⟨f, rfl⟩ : ∃ n, fuel = n + 1 := ⟨fuel - 1, by omega⟩
    by_cases hc : i.toInt < n.toInt
    · have hi : Kn n i := ⟨h0, hc⟩
      have ei := succ8 (i := i) (by omega)
      have ed := bs hn hd hi
      have cdd : 0 ≤ (d + i).toInt ∧ (d + i).toInt < 64 := by
        rcases hd with rfl | rfl
        · rw [t0] at ed; omega
        · rw [t32] at ed; omega
      obtain ⟨q, eq, q1, q2, q3, q4, q5⟩ := ih f (sA ob 0 (d + i) 0) (i + 1) (by omega) (by omega) (by omega) g0
      refine ⟨q, ?_, q1, fun k x hk => ?_, fun y hy => ?_, fun x hx a => ?_, fun x hx a => ?_⟩
      · rw [← eq]
        show X_zeroLeg_w7 NF _ ob d i = _
        unfold X_zeroLeg_w7; rw [g0, if_pos (lt_i.mpr hc), chk_ok (by rw [t64]; exact cdd)]
      · rw [q2 k x hk, gA_sA, if_neg (fun h => hk h.1)]
      · rw [q3 y hy, gA_sA, if_neg (fun h => hy i hi h.2)]
      · rw [q4 x hx (by omega), gA_sA, if_neg (fun h => by have := bs_inj hn hd hx hi h.2; rw [this] at a; omega)]
      · by_cases c : x = i
        · rw [q4 x hx (by rw [c]; omega), c, gA_sA, if_pos ⟨rfl, rfl⟩]
        · have hne : x.toInt ≠ i.toInt := fun h => c (eq_i32.mpr h)
          exact q5 x hx (by omega)
    · refine ⟨ob, ?_, rfl, fun _ _ _ => rfl, fun _ _ => rfl, fun _ _ _ => rfl, fun x hx a => absurd hx.2 (by omega)⟩
      show X_zeroLeg_w7 NF _ ob d i = _
      unfold X_zeroLeg_w7; rw [g0, if_neg (by rw [lt_i]; omega)]
theorem ma_l (NF : Nat) (nR : Int32) (hR : nR.toInt ≤ 12) : ∀ (m fuel : Nat) (ob : Rec) (i : Int32), m < fuel → 0 ≤ i.toInt → nR.toInt - i.toInt ≤ m → gI ob 3 = nR → ∃ q, X_markAllDirty_l2 NF fuel ob i = some q ∧ Bm ob q ∧ (∀ x, x.toInt < i.toInt → gA q 3 x = gA ob 3 x) ∧ ∀ x, i.toInt ≤ x.toInt → x.toInt < nR.toInt → gA q 3 x = 1 := by
  intro m
  induction m with
  | zero =>
    intro fuel ob i hf h0 h2 g3
    obtain ⟨n, rfl⟩ : ∃ n, fuel = n + 1 := ⟨fuel - 1, by omega⟩
    refine ⟨ob, ?_, Bm.refl ob, fun _ _ => rfl, fun x a b => absurd b (by omega)⟩
    show X_markAllDirty_w2 NF _ ob i = _
    unfold X_markAllDirty_w2; rw [g3, if_neg (by rw [lt_i]; omega)]
  | succ m ih =>
    intro fuel ob i hf h0 h2 g3
    obtain ⟨n, rfl⟩ : ∃ n, fuel = n + 1 := ⟨fuel - 1, by omega⟩
    by_cases hc : i.toInt < nR.toInt
    · have ei := succ8 (i := i) (by omega)
      have c : ∀ A : Option Rec, chk 32 i A = A := fun A => chk_ok (by rw [t32]; omega)
      obtain ⟨q, eq, q1, q2, q3⟩ := ih n (sA (sA (sA ob 3 i 1) 4 i 0) 5 i 0) (i + 1) (by omega) (by omega) (by omega) g3
      refine ⟨q, ?_, (Bm.set ob i 1 0 0).trans q1, fun x a => ?_, fun x a b => ?_⟩
      · rw [← eq]
        show X_markAllDirty_w2 NF _ ob i = _
        unfold X_markAllDirty_w2 X_markDirty; rw [g3, if_pos (lt_i.mpr hc), c, c, c, Option.bind_some]
      · have ne : ¬ x = i := fun h => by rw [h] at a; omega
        rw [q2 x (by omega), gA_sA, if_neg (fun h => ne h.2), gA_sA, if_neg (fun h => ne h.2), gA_sA, if_neg (fun h => ne h.2)]
      · by_cases e : x = i
        · rw [q2 x (by rw [e]; omega), e, gA_sA, if_neg (fun h => absurd h.1 (by decide)), gA_sA, if_neg (fun h => absurd h.1 (by decide)), gA_sA, if_pos ⟨rfl, rfl⟩]
        · have hne : x.toInt ≠ i.toInt := fun h => e (eq_i32.mpr h)
          exact q3 x (by omega) b
    · refine ⟨ob, ?_, Bm.refl ob, fun _ _ => rfl, fun x a b => absurd b (by omega)⟩
      show X_markAllDirty_w2 NF _ ob i = _
      unfold X_markAllDirty_w2; rw [g3, if_neg (by rw [lt_i]; omega)]
def MI (n rs : Int32) (ob : Rec) : Prop :=
  (gI ob 0 = n ∧ gI ob 1 = rs ∧ gI ob 3 = (n + rs - 1) / rs) ∧
  (gI ob 5 = 0 ∨ (gI ob 5 = 1 ∧ gI ob 4 = 0 ∧ Kn n (gI ob 6) ∧ (gI ob 8 = 0 ∨ gI ob 8 = 1 ∨ gI ob 8 = 2) ∧ ¬ gA ob 3 (gI ob 6 / rs) = 0)) ∧
  (∀ x, Kn n x → ¬ gA ob 0 x = gA ob 0 (32 + x) → ¬ gA ob 3 (x / rs) = 0) ∧
  (gA ob 2 0 = 0 → gA ob 2 1 = 0 → gI ob 4 = 0 → (∀ x, Kn n x → ¬ gA ob 0 x = gA ob 0 (32 + x) → gI ob 5 = 1 ∧ x = gI ob 6 ∧ gI ob 8 = 1) ∧ (gI ob 5 = 1 → gI ob 8 = 1 → gA ob 0 (gI ob 6) = gI ob 7))
/-- visibly equal -/
def VE (a b : Rec) : Prop := (∀ k, (k = 0 ∨ (4 ≤ k ∧ k ≤ 8)) → gI a k = gI b k) ∧ ∀ (k : Nat) (x : Int32), k < 3 → gA a k x = gA b k x
theorem VE.sI {a b : Rec} (h : VE a b) (k : Nat) (v : Int32) : VE (sI a k v) (sI b k v) := by
  refine ⟨fun j hj => ?_, h.2⟩
  rw [gI_sI, gI_sI, h.1 j hj]
theorem VE.sA {a b : Rec} (h : VE a b) (k : Nat) (i v : Int32) : VE (sA a k i v) (sA b k i v) := by
  refine ⟨h.1, fun j x hj => ?_⟩
  rw [gA_sA, gA_sA, h.2 j x hj]
theorem VE.symm {a b : Rec} (h : VE a b) : VE b a := ⟨fun k hk => (h.1 k hk).symm, fun k x hk => (h.2 k x hk).symm⟩
theorem VE.trans {a b c : Rec} (h : VE a b) (g : VE b c) : VE a c := ⟨fun k hk => (h.1 k hk).trans (g.1 k hk), fun k x hk => (h.2 k x hk).trans (g.2 k x hk)⟩
theorem Bm.ve {a b : Rec} (h : Bm a b) : VE b a := ⟨fun k _ => h.n k, fun k x hk => h.2 k x hk⟩
def Two (n ra rb : Int32) (A B : Option (Int32 × Rec)) : Prop := ∃ r qa qb, A = some (r, qa) ∧ B = some (r, qb) ∧ MI n ra qa ∧ MI n rb qb ∧ VE qa qb
theorem vb_e {ob : Rec} {n b : Int32} (h0 : gI ob 0 = n) (hb : Kn n b) : X_validBlock ob b = some 1 := by
  have := hb.1; have := hb.2
  unfold X_validBlock; rw [h0, if_neg (by rw [lt_i, t0]; omega), if_pos (by rw [lt_i]; omega)]
theorem vb_n {ob : Rec} {n b : Int32} (h0 : gI ob 0 = n) (hb : ¬ Kn n b) : X_validBlock ob b = some 0 := by
  unfold X_validBlock; rw [h0]
  by_cases c : b < 0
  · rw [if_pos c]
  · rw [if_neg c, if_neg (fun h => hb ⟨by rw [lt_i, t0] at c; omega, lt_i.mp h⟩)]
def wr (ob : Rec) (r b v : Int32) : Rec := sI (sI (sI (sI (sA (sA (sA ob 3 r 1) 4 r 0) 5 r 0) 5 1) 6 b) 7 v) 8 0
theorem wr_ve {a b : Rec} (h : VE a b) (r r' x v : Int32) : VE (wr a r x v) (wr b r' x v) := by
  have e : VE (sA (sA (sA a 3 r 1) 4 r 0) 5 r 0) (sA (sA (sA b 3 r' 1) 4 r' 0) 5 r' 0) := (Bm.set a r 1 0 0).ve.trans (h.trans (Bm.set b r' 1 0 0).ve.symm)
  exact (((e.sI 5 1).sI 6 x).sI 7 v).sI 8 0
theorem wr_mi {n rs : Int32} {ob : Rec} (h : MI n rs ob) (h4 : gI ob 4 = 0) (h5 : gI ob 5 = 0) {x v : Int32} (hx : Kn n x) : MI n rs (wr ob (x / rs) x v) := by
  obtain ⟨⟨g0, g1, g3⟩, -, i1, i2⟩ := h
  have d3 : ∀ y, gA (wr ob (x / rs) x v) 3 y = if y = x / rs then 1 else gA ob 3 y := by
    intro y; unfold wr; simp only [gA_sI, gA_sA]; simp
  have dk : ∀ (k : Nat) (y : Int32), k < 3 → gA (wr ob (x / rs) x v) k y = gA ob k y := fun k y hk => (Bm.set ob (x / rs) 1 0 0).2 k y hk
  refine ⟨⟨g0, g1, g3⟩, Or.inr ⟨rfl, h4, hx, Or.inl rfl, ?_⟩, fun y hy hd => ?_, fun a0 a1 a4 => ⟨fun y hy hd => ?_, fun _ h8 => absurd h8 (by show ¬ (0 : Int32) = 1; decide)⟩⟩
  · show ¬ gA (wr ob (x / rs) x v) 3 (x / rs) = 0
    rw [d3, if_pos rfl]; decide
  · rw [d3]
    by_cases c : y / rs = x / rs
    · rw [if_pos c]; decide
    · rw [if_neg c]; rw [dk 0 _ (by omega), dk 0 _ (by omega)] at hd; exact i1 y hy hd
  · rw [dk 0 _ (by omega), dk 0 _ (by omega)] at hd
    rw [dk 2 _ (by omega)] at a0 a1
    have := ((i2 a0 a1 h4).1 y hy hd).1
    rw [h5] at this; exact absurd this (by decide)
theorem write2 {n ra rb : Int32} {a b : Rec} (hn : NN n) (hra : RS ra) (hrb : RS rb) (ha : MI n ra a) (hb : MI n rb b) (h : VE a b) (x v : Int32) : Two n ra rb (X_write a x v) (X_write b x v) := by
  have e4 := h.1 4 (by omega)
  have e5 := h.1 5 (by omega)
  have ok : ∀ (rs : Int32) (ob : Rec), RS rs → MI n rs ob → gI ob 4 = 0 → gI ob 5 = 0 → Kn n x → ¬ v < 0 → ¬ 65535 < v → X_write ob x v = some (0, wr ob (x / rs) x v) := by
    intro rs ob hrs hm h4 h5 hx c1 c2
    have T := tabM n hn rs hrs x (kM hn hx)
    have c : ∀ A : Option Rec, chk 32 (x / rs) A = A := fun A => chk_ok (by rw [t32]; omega)
    unfold X_write X_markDirty dvz
    rw [if_pos h4, vb_e hm.1.1 hx, Option.bind_some, if_neg (by decide), if_neg c1, if_neg c2, if_pos h5, hm.1.2.1, if_neg T.2.2.2.2.2.2.2.1, c, c, c, Option.bind_some]; rfl
  by_cases c4 : gI a 4 = 0
  · have c4' : gI b 4 = 0 := e4.symm.trans c4
    by_cases cx : Kn n x
    · by_cases c1 : v < 0
      · refine ⟨-2, a, b, ?_, ?_, ha, hb, h⟩
        · unfold X_write; rw [if_pos c4, vb_e ha.1.1 cx, Option.bind_some, if_neg (by decide), if_pos c1]
        · unfold X_write; rw [if_pos c4', vb_e hb.1.1 cx, Option.bind_some, if_neg (by decide), if_pos c1]
      · by_cases c2 : 65535 < v
        · refine ⟨-2, a, b, ?_, ?_, ha, hb, h⟩
          · unfold X_write; rw [if_pos c4, vb_e ha.1.1 cx, Option.bind_some, if_neg (by decide), if_neg c1, if_pos c2]
          · unfold X_write; rw [if_pos c4', vb_e hb.1.1 cx, Option.bind_some, if_neg (by decide), if_neg c1, if_pos c2]
        · by_cases c5 : gI a 5 = 0
          · have c5' : gI b 5 = 0 := e5.symm.trans c5
            exact ⟨0, _, _, ok ra a hra ha c4 c5 cx c1 c2, ok rb b hrb hb c4' c5' cx c1 c2, wr_mi ha c4 c5 cx, wr_mi hb c4' c5' cx, wr_ve h _ _ x v⟩
          · have c5' : ¬ gI b 5 = 0 := fun e => c5 (e5.trans e)
            refine ⟨-3, a, b, ?_, ?_, ha, hb, h⟩
            · unfold X_write; rw [if_pos c4, vb_e ha.1.1 cx, Option.bind_some, if_neg (by decide), if_neg c1, if_neg c2, if_neg c5]
            · unfold X_write; rw [if_pos c4', vb_e hb.1.1 cx, Option.bind_some, if_neg (by decide), if_neg c1, if_neg c2, if_neg c5']
    · refine ⟨-2, a, b, ?_, ?_, ha, hb, h⟩
      · unfold X_write; rw [if_pos c4, vb_n ha.1.1 cx, Option.bind_some, if_pos rfl]
      · unfold X_write; rw [if_pos c4', vb_n hb.1.1 cx, Option.bind_some, if_pos rfl]
  · have c4' : ¬ gI b 4 = 0 := fun e => c4 (e4.trans e)
    refine ⟨-1, a, b, ?_, ?_, ha, hb, h⟩
    · unfold X_write; rw [if_neg c4]
    · unfold X_write; rw [if_neg c4']
def cl (ob : Rec) : Rec := sI (sI (sI (sI ob 5 0) 6 (-1)) 7 0) 8 (-1)
theorem cl_ve {a b : Rec} (h : VE a b) : VE (cl a) (cl b) := (((h.sI 5 0).sI 6 (-1)).sI 7 0).sI 8 (-1)
theorem crash2 {n ra rb : Int32} {a b : Rec} (ha : MI n ra a) (hb : MI n rb b) (h : VE a b) : Two n ra rb (X_crash a) (X_crash b) := by
  have e4 := h.1 4 (by omega)
  have mi : ∀ (rs : Int32) (ob : Rec), MI n rs ob → MI n rs (sI (cl ob) 4 1) := by
    intro rs ob hm
    obtain ⟨g, -, i1, -⟩ := hm
    exact ⟨g, Or.inl rfl, i1, fun _ _ h4 => absurd h4 (by show ¬ (1 : Int32) = 0; decide)⟩
  by_cases c4 : gI a 4 = 0
  · have c4' : gI b 4 = 0 := e4.symm.trans c4
    refine ⟨0, sI (cl a) 4 1, sI (cl b) 4 1, ?_, ?_, mi ra a ha, mi rb b hb, (cl_ve h).sI 4 1⟩
    · unfold X_crash X_clearPending; rw [if_pos c4, Option.bind_some]; rfl
    · unfold X_crash X_clearPending; rw [if_pos c4', Option.bind_some]; rfl
  · have c4' : ¬ gI b 4 = 0 := fun e => c4 (e4.trans e)
    refine ⟨-1, a, b, ?_, ?_, ha, hb, h⟩
    · unfold X_crash; rw [if_neg c4]
    · unfold X_crash; rw [if_neg c4']
theorem MI.st {n rs : Int32} {ob : Rec} (h : MI n rs ob) (i v : Int32) (hi : i = 0 ∨ i = 1) (hv : ¬ v = 0) : MI n rs (sA ob 2 i v) := by
  obtain ⟨g, b, i1, -⟩ := h
  refine ⟨g, b, i1, fun a0 a1 _ => ?_⟩
  rcases hi with rfl | rfl
  · rw [gA_sA, if_pos ⟨rfl, rfl⟩] at a0; exact absurd a0 hv
  · rw [gA_sA, if_pos ⟨rfl, rfl⟩] at a1; exact absurd a1 hv
theorem restart2 {n ra rb : Int32} {a b : Rec} (ha : MI n ra a) (hb : MI n rb b) (h : VE a b) : Two n ra rb (X_restart a) (X_restart b) := by
  have e4 := h.1 4 (by omega)
  have s0 := h.2 2 0 (by omega)
  have s1 := h.2 2 1 (by omega)
  by_cases c4 : gI a 4 = 0
  · have c4' : gI b 4 = 0 := e4.symm.trans c4
    refine ⟨-4, a, b, ?_, ?_, ha, hb, h⟩
    · unfold X_restart; rw [if_pos c4]
    · unfold X_restart; rw [if_pos c4']
  · have c4' : ¬ gI b 4 = 0 := fun e => c4 (e4.trans e)
    have mi : ∀ (rs : Int32) (ob : Rec), MI n rs ob → ¬ gI ob 4 = 0 → ¬ (gA ob 2 0 = 0 ∧ gA ob 2 1 = 0) → MI n rs (sI ob 4 0) := by
      intro rs ob hm h4 hs
      obtain ⟨g, b, i1, -⟩ := hm
      refine ⟨g, b.imp id (fun b => absurd b.2.1 h4), i1, fun a0 a1 _ => absurd ⟨a0, a1⟩ hs⟩
    by_cases c0 : gA a 2 0 = 0
    · have c0' : gA b 2 0 = 0 := s0.symm.trans c0
      by_cases c1 : gA a 2 1 = 0
      · have c1' : gA b 2 1 = 0 := s1.symm.trans c1
        have mi' : ∀ (rs : Int32) (ob : Rec), MI n rs ob → ¬ gI ob 4 = 0 → MI n rs (sA (sI ob 4 0) 2 1 1) := by
          intro rs ob hm h4
          obtain ⟨g, b, i1, -⟩ := hm
          refine ⟨g, b.imp id (fun b => absurd b.2.1 h4), i1, fun a0 a1 _ => ?_⟩
          rw [gA_sA, if_pos ⟨rfl, rfl⟩] at a1; exact absurd a1 (by decide)
        refine ⟨0, sA (sI a 4 0) 2 1 1, sA (sI b 4 0) 2 1 1, ?_, ?_, mi' ra a ha c4, mi' rb b hb c4', (h.sI 4 0).sA 2 1 1⟩
        · unfold X_restart; rw [if_neg c4, chk_ok (by decide), if_pos c0, chk_ok (by decide), if_pos c1, chk_ok (by decide)]
        · unfold X_restart; rw [if_neg c4', chk_ok (by decide), if_pos c0', chk_ok (by decide), if_pos c1', chk_ok (by decide)]
      · have c1' : ¬ gA b 2 1 = 0 := fun e => c1 (s1.trans e)
        refine ⟨0, sI a 4 0, sI b 4 0, ?_, ?_, mi ra a ha c4 (fun x => c1 x.2), mi rb b hb c4' (fun x => c1' x.2), h.sI 4 0⟩
        · unfold X_restart; rw [if_neg c4, chk_ok (by decide), if_pos c0, chk_ok (by decide), if_neg c1]
        · unfold X_restart; rw [if_neg c4', chk_ok (by decide), if_pos c0', chk_ok (by decide), if_neg c1']
    · have c0' : ¬ gA b 2 0 = 0 := fun e => c0 (s0.trans e)
      refine ⟨0, sI a 4 0, sI b 4 0, ?_, ?_, mi ra a ha c4 (fun x => c0 x.1), mi rb b hb c4' (fun x => c0' x.1), h.sI 4 0⟩
      · unfold X_restart; rw [if_neg c4, chk_ok (by decide), if_neg c0]
      · unfold X_restart; rw [if_neg c4', chk_ok (by decide), if_neg c0']
abbrev L01 (i : Int32) : Prop := i = 0 ∨ i = 1
theorem vl_e (ob : Rec) {i : Int32} (hi : L01 i) : X_validLeg ob i = some 1 := by
  unfold X_validLeg
  rcases hi with rfl | rfl
  · rw [if_pos rfl]
  · rw [if_neg (by decide), if_pos rfl]
theorem vl_n (ob : Rec) {i : Int32} (hi : ¬ L01 i) : X_validLeg ob i = some 0 := by
  unfold X_validLeg; rw [if_neg (fun e => hi (Or.inl e)), if_neg (fun e => hi (Or.inr e))]
theorem chk2 {γ : Type} {s : Int32} (hs : L01 s) (A : Option γ) : chk 2 s A = A := by
  rcases hs with rfl | rfl <;> exact chk_ok (by decide)
theorem ot {i : Int32} (hi : L01 i) : L01 (1 - i) := by
  rcases hi with rfl | rfl
  · exact Or.inr rfl
  · exact Or.inl rfl
theorem fail2 {n ra rb : Int32} {a b : Rec} (ha : MI n ra a) (hb : MI n rb b) (h : VE a b) (i : Int32) : Two n ra rb (X_failLeg a i) (X_failLeg b i) := by
  have e4 := h.1 4 (by omega)
  by_cases c4 : gI a 4 = 0
  · have c4' : gI b 4 = 0 := e4.symm.trans c4
    by_cases ci : L01 i
    · have si := h.2 2 i (by omega)
      have so := h.2 2 (1 - i) (by omega)
      by_cases d1 : gA a 2 i = 2
      · refine ⟨-4, a, b, ?_, ?_, ha, hb, h⟩
        · unfold X_failLeg; rw [if_pos c4, vl_e a ci, Option.bind_some, if_neg (by decide), chk2 ci, if_pos d1]
        · unfold X_failLeg; rw [if_pos c4', vl_e b ci, Option.bind_some, if_neg (by decide), chk2 ci, if_pos (si.symm.trans d1)]
      · have d1' : ¬ gA b 2 i = 2 := fun e => d1 (si.trans e)
        by_cases d2 : gA a 2 (1 - i) = 0
        · refine ⟨0, sA a 2 i 2, sA b 2 i 2, ?_, ?_, ha.st i 2 ci (by decide), hb.st i 2 ci (by decide), h.sA 2 i 2⟩
          · unfold X_failLeg; rw [if_pos c4, vl_e a ci, Option.bind_some, if_neg (by decide), chk2 ci, if_neg d1, chk2 (ot ci), if_pos d2, chk2 ci]
          · unfold X_failLeg; rw [if_pos c4', vl_e b ci, Option.bind_some, if_neg (by decide), chk2 ci, if_neg d1', chk2 (ot ci), if_pos (so.symm.trans d2), chk2 ci]
        · refine ⟨-4, a, b, ?_, ?_, ha, hb, h⟩
          · unfold X_failLeg; rw [if_pos c4, vl_e a ci, Option.bind_some, if_neg (by decide), chk2 ci, if_neg d1, chk2 (ot ci), if_neg d2]
          · unfold X_failLeg; rw [if_pos c4', vl_e b ci, Option.bind_some, if_neg (by decide), chk2 ci, if_neg d1', chk2 (ot ci), if_neg (fun e => d2 (so.trans e))]
    · refine ⟨-2, a, b, ?_, ?_, ha, hb, h⟩
      · unfold X_failLeg; rw [if_pos c4, vl_n a ci, Option.bind_some, if_pos rfl]
      · unfold X_failLeg; rw [if_pos c4', vl_n b ci, Option.bind_some, if_pos rfl]
  · have c4' : ¬ gI b 4 = 0 := fun e => c4 (e4.trans e)
    refine ⟨-1, a, b, ?_, ?_, ha, hb, h⟩
    · unfold X_failLeg; rw [if_neg c4]
    · unfold X_failLeg; rw [if_neg c4']
/-- checkDetached: the same code; 0 only for a detached leg, at rest -/
theorem cd2 {a b : Rec} (h : VE a b) (i : Int32) : ∃ r, X_checkDetached a i = some r ∧ X_checkDetached b i = some r ∧ (r = 0 → L01 i ∧ gI a 4 = 0 ∧ gI a 5 = 0) := by
  have e4 := h.1 4 (by omega)
  have e5 := h.1 5 (by omega)
  have si := h.2 2 i (by omega)
  have n1 : ¬ (-1 : Int32) = 0 := by decide
  have n2 : ¬ (-2 : Int32) = 0 := by decide
  have n3 : ¬ (-3 : Int32) = 0 := by decide
  have n4 : ¬ (-4 : Int32) = 0 := by decide
  unfold X_checkDetached
  rw [← e4, ← e5, ← si]
  by_cases c4 : gI a 4 = 0
  · rw [if_pos c4, if_pos c4]
    by_cases ci : L01 i
    · rw [vl_e a ci, vl_e b ci, Option.bind_some, if_neg (by decide)]
      by_cases c5 : gI a 5 = 0
      · rw [if_pos c5, chk2 ci]
        by_cases d : gA a 2 i = 2
        · rw [if_pos d]; exact ⟨0, rfl, rfl, fun _ => ⟨ci, c4, c5⟩⟩
        · rw [if_neg d]; exact ⟨-4, rfl, rfl, fun e => absurd e n4⟩
      · rw [if_neg c5]; exact ⟨-3, rfl, rfl, fun e => absurd e n3⟩
    · rw [vl_n a ci, vl_n b ci, Option.bind_some, if_pos rfl]; exact ⟨-2, rfl, rfl, fun e => absurd e n2⟩
  · rw [if_neg c4, if_neg c4]; exact ⟨-1, rfl, rfl, fun e => absurd e n1⟩
theorem reat2 {n ra rb : Int32} {a b : Rec} (ha : MI n ra a) (hb : MI n rb b) (h : VE a b) (i : Int32) : Two n ra rb (X_reattachLeg a i) (X_reattachLeg b i) := by
  obtain ⟨r, ea, eb, hr⟩ := cd2 h i
  unfold X_reattachLeg
  rw [ea, eb, Option.bind_some, Option.bind_some]
  by_cases c : r = 0
  · have ci := (hr c).1
    rw [if_pos c, if_pos c, chk2 ci, chk2 ci]
    exact ⟨0, _, _, rfl, rfl, ha.st i 1 ci (by decide), hb.st i 1 ci (by decide), h.sA 2 i 1⟩
  · rw [if_neg c, if_neg c]; exact ⟨r, a, b, rfl, rfl, ha, hb, h⟩
theorem i32b {i : Int32} (hi : L01 i) : i * 32 = 0 ∨ i * 32 = 32 := by
  rcases hi with rfl | rfl
  · exact Or.inl rfl
  · exact Or.inr rfl
theorem rp1 (NF : Nat) (hNF : 60 ≤ NF) {n rs i : Int32} {ob : Rec} (hn : NN n) (hrs : RS rs) (hm : MI n rs ob) (ci : L01 i) (h5 : gI ob 5 = 0) (ec : X_checkDetached ob i = some 0) : ∃ q, X_replaceLeg NF ob i = some (0, q) ∧ MI n rs q ∧ (∀ k, gI q k = gI ob k) ∧ (∀ x, gA q 1 x = gA ob 1 x) ∧ (∀ x, gA q 2 x = if x = i then 1 else gA ob 2 x) ∧ (∀ y, (∀ x, Kn n x → ¬ y = i * 32 + x) → gA q 0 y = gA ob 0 y) ∧ (∀ x, Kn n x → gA q 0 (i * 32 + x) = 0) := by
  have nb := n_b hn
  obtain ⟨⟨g0, g1, g3⟩, -, -, -⟩ := hm
  have T := tabM n hn rs hrs 0 (by decide)
  obtain ⟨q, eq, q1, q2, q3, -, q5⟩ := zl_l NF n (i * 32) hn (i32b ci) 12 NF ob 0 (by omega) (by decide) (by rw [t0]; omega) g0
  have qI : ∀ k, gI q k = gI ob k := fun k => by unfold gI; rw [q1]
  obtain ⟨p, ep, p1, -, p3⟩ := ma_l NF ((n + rs - 1) / rs) (by omega) 12 NF q 0 (by omega) (by decide) (by rw [t0]; omega) ((qI 3).trans g3)
  have pI : ∀ k, gI (sA p 2 i 1) k = gI ob k := fun k => (p1.n k).trans (qI k)
  have p2 : ∀ x, gA (sA p 2 i 1) 2 x = if x = i then 1 else gA ob 2 x := by
    intro x; rw [gA_sA]
    by_cases c : x = i
    · rw [if_pos ⟨rfl, c⟩, if_pos c]
    · rw [if_neg (fun h => c h.2), if_neg c, p1.2 2 x (by omega), q2 2 x (by decide)]
  refine ⟨sA p 2 i 1, ?_, ⟨⟨(pI 0).trans g0, (pI 1).trans g1, (pI 3).trans g3⟩, Or.inl ((pI 5).trans h5), fun x hx _ => ?_, fun a0 a1 _ => ?_⟩, pI, fun x => ?_, p2, fun y hy => ?_, fun x hx => ?_⟩
  · unfold X_replaceLeg
    rw [ec, Option.bind_some, if_pos rfl]
    unfold X_zeroLeg X_markAllDirty
    rw [eq, Option.bind_some, ep, Option.bind_some, chk2 ci]
  · have tx := tabM n hn rs hrs x (kM hn hx)
    have : gA (sA p 2 i 1) 3 (x / rs) = 1 := p3 (x / rs) (by rw [t0]; exact tx.2.1) (tx.1 hx.2)
    rw [this]; decide
  · rw [p2] at a0 a1
    rcases ci with rfl | rfl
    · rw [if_pos rfl] at a0; exact absurd a0 (by decide)
    · rw [if_pos rfl] at a1; exact absurd a1 (by decide)
  · show gA p 1 x = _
    rw [p1.2 1 x (by omega), q2 1 x (by decide)]
  · show gA p 0 y = _
    rw [p1.2 0 y (by omega), q3 y hy]
  · show gA p 0 (i * 32 + x) = _
    rw [p1.2 0 _ (by omega), q5 x hx (by rw [t0]; exact hx.1)]
theorem repl2 (NF : Nat) (hNF : 60 ≤ NF) {n ra rb : Int32} {a b : Rec} (hn : NN n) (hra : RS ra) (hrb : RS rb) (ha : MI n ra a) (hb : MI n rb b) (h : VE a b) (i : Int32) : Two n ra rb (X_replaceLeg NF a i) (X_replaceLeg NF b i) := by
  obtain ⟨r, ea, eb, hr⟩ := cd2 h i
  have nb := n_b hn
  by_cases c : r = 0
  · obtain ⟨ci, c4, c5⟩ := hr c
    have c5' : gI b 5 = 0 := (h.1 5 (by omega)).symm.trans c5
    rw [c] at ea eb
    obtain ⟨qa, fa, ma, a1, a2, a3, a4, a5⟩ := rp1 NF hNF hn hra ha ci c5 ea
    obtain ⟨qb, fb, mb, b1, b2, b3, b4, b5⟩ := rp1 NF hNF hn hrb hb ci c5' eb
    refine ⟨0, qa, qb, fa, fb, ma, mb, fun k hk => ?_, fun k x hk => ?_⟩
    · rw [a1, b1]; exact h.1 k hk
    · have hk' : k = 0 ∨ k = 1 ∨ k = 2 := by omega
      rcases hk' with rfl | rfl | rfl
      · by_cases e : ∃ y, Kn n y ∧ x = i * 32 + y
        · obtain ⟨y, hy, rfl⟩ := e
          rw [a5 y hy, b5 y hy]
        · have e' : ∀ y, Kn n y → ¬ x = i * 32 + y := fun y hy he => e ⟨y, hy, he⟩
          rw [a4 x e', b4 x e']; exact h.2 0 x (by omega)
      · rw [a2, b2]; exact h.2 1 x (by omega)
      · rw [a3, b3, h.2 2 x (by omega)]
  · unfold X_replaceLeg
    rw [ea, eb, Option.bind_some, Option.bind_some, if_neg c, if_neg c]
    exact ⟨r, a, b, rfl, rfl, ha, hb, h⟩
theorem rsy1 (NF : Nat) (hNF : 60 ≤ NF) {n rs i s d : Int32} {ob : Rec} (hn : NN n) (hrs : RS rs) (hm : MI n rs ob) (h4 : gI ob 4 = 0) (h5 : gI ob 5 = 0) (ci : L01 i) (hsd : SD s d) (es : (1 - i) * 32 = s) (ed : i * 32 = d) (ni : ¬ i = -1) (est : X_staleLeg ob = some i) : ∃ q, X_resync NF ob = some (0, q) ∧ MI n rs q ∧ (∀ k, gI q k = gI ob k) ∧ (∀ x, gA q 1 x = gA ob 1 x) ∧ (∀ x, gA q 2 x = if x = i then 0 else gA ob 2 x) ∧ (∀ y, (∀ x, Kn n x → ¬ y = d + x) → gA q 0 y = gA ob 0 y) ∧ (∀ x, Kn n x → gA q 0 (d + x) = gA ob 0 (s + x)) := by
  have nb := n_b hn
  obtain ⟨⟨g0, g1, g3⟩, -, i1, -⟩ := hm
  have T := tabM n hn rs hrs 0 (by decide)
  obtain ⟨p, ep, p1, p2⟩ := out_l NF (by omega) n s d hn hsd rs hrs 12 NF ob 0 (by omega) (by decide) (by rw [t0]; omega) g0 g1 g3
  obtain ⟨q, eq, bq⟩ := cb_l NF 32 NF p 0 (by omega) (by decide) (by rw [t0]; omega)
  have full : ∀ x, Kn n x → gA p 0 (d + x) = gA ob 0 (s + x) := by
    intro x hx
    by_cases e : gA ob 0 x = gA ob 0 (32 + x)
    · have e' : gA ob 0 (d + x) = gA ob 0 (s + x) := by
        rcases hsd with ⟨rfl, rfl⟩ | ⟨rfl, rfl⟩
        · rw [Int32.zero_add]; exact e.symm
        · rw [Int32.zero_add]; exact e
      rcases p1.2.2.2 x hx with f | f
      · exact f
      · exact f.trans e'
    · exact p2 x hx (by rw [t0]; exact (tabM n hn rs hrs x (kM hn hx)).2.1) (i1 x hx e)
  have q0 : ∀ y, gA (sA q 2 i 0) 0 y = gA p 0 y := fun y => bq.2 0 y (by omega)
  have eqL : ∀ x, Kn n x → gA (sA q 2 i 0) 0 x = gA (sA q 2 i 0) 0 (32 + x) := by
    intro x hx
    have u := full x hx
    have w := p1.src hn hsd hx
    rw [q0, q0]
    rcases hsd with ⟨rfl, rfl⟩ | ⟨rfl, rfl⟩
    · rw [Int32.zero_add] at u w; rw [u, w]
    · rw [Int32.zero_add] at u; rw [u, w]
  have qI : ∀ k, gI (sA q 2 i 0) k = gI ob k := fun k => by
    show gI q k = _
    rw [bq.n k]; unfold gI; rw [p1.1]
  refine ⟨sA q 2 i 0, ?_, ⟨⟨(qI 0).trans g0, (qI 1).trans g1, (qI 3).trans g3⟩, Or.inl ((qI 5).trans h5), fun x hx e => absurd (eqL x hx) e, fun _ _ _ => ⟨fun x hx e => absurd (eqL x hx) e, fun e => ?_⟩⟩, qI, fun x => ?_, fun x => ?_, fun y hy => ?_, fun x hx => ?_⟩
  · unfold X_resync
    rw [if_pos h4, if_pos h5, est, Option.bind_some, if_neg ni]
    unfold X_copyDirtyRegions
    rw [es, ed, ep, Option.bind_some]
    unfold X_clearBitmap
    rw [eq, Option.bind_some, chk2 ci]
  · rw [qI 5, h5] at e; exact absurd e (by decide)
  · show gA q 1 x = _
    rw [bq.2 1 x (by omega), p1.2.1 1 x (by decide)]
  · rw [gA_sA]
    by_cases c : x = i
    · rw [if_pos ⟨rfl, c⟩, if_pos c]
    · rw [if_neg (fun h => c h.2), if_neg c, bq.2 2 x (by omega), p1.2.1 2 x (by decide)]
  · rw [q0, p1.2.2.1 y hy]
  · rw [q0, full x hx]
theorem resync2 (NF : Nat) (hNF : 60 ≤ NF) {n ra rb : Int32} {a b : Rec} (hn : NN n) (hra : RS ra) (hrb : RS rb) (ha : MI n ra a) (hb : MI n rb b) (h : VE a b) : Two n ra rb (X_resync NF a) (X_resync NF b) := by
  have nb := n_b hn
  have e4 := h.1 4 (by omega)
  have e5 := h.1 5 (by omega)
  have s0 := h.2 2 0 (by omega)
  have s1 := h.2 2 1 (by omega)
  by_cases c4 : gI a 4 = 0
  · have c4' : gI b 4 = 0 := e4.symm.trans c4
    by_cases c5 : gI a 5 = 0
    · have c5' : gI b 5 = 0 := e5.symm.trans c5
      have two : ∀ (i s d : Int32), L01 i → SD s d → (1 - i) * 32 = s → i * 32 = d → ¬ i = -1 → X_staleLeg a = some i → X_staleLeg b = some i → Two n ra rb (X_resync NF a) (X_resync NF b) := by
        intro i s d ci hsd es ed ni eA eB
        obtain ⟨qa, fa, ma, a1, a2, a3, a4, a5⟩ := rsy1 NF hNF hn hra ha c4 c5 ci hsd es ed ni eA
        obtain ⟨qb, fb, mb, b1, b2, b3, b4, b5⟩ := rsy1 NF hNF hn hrb hb c4' c5' ci hsd es ed ni eB
        refine ⟨0, qa, qb, fa, fb, ma, mb, fun k hk => ?_, fun k x hk => ?_⟩
        · rw [a1, b1]; exact h.1 k hk
        · have hk' : k = 0 ∨ k = 1 ∨ k = 2 := by omega
          rcases hk' with rfl | rfl | rfl
          · by_cases e : ∃ y, Kn n y ∧ x = d + y
            · obtain ⟨y, hy, rfl⟩ := e
              rw [a5 y hy, b5 y hy]; exact h.2 0 _ (by omega)
            · have e' : ∀ y, Kn n y → ¬ x = d + y := fun y hy he => e ⟨y, hy, he⟩
              rw [a4 x e', b4 x e']; exact h.2 0 x (by omega)
          · rw [a2, b2]; exact h.2 1 x (by omega)
          · rw [a3, b3, h.2 2 x (by omega)]
      by_cases d0 : gA a 2 0 = 1
      · refine two 0 32 0 (Or.inl rfl) (Or.inr ⟨rfl, rfl⟩) rfl rfl (by decide) ?_ ?_
        · unfold X_staleLeg; rw [chk_ok (by decide), if_pos d0]
        · unfold X_staleLeg; rw [chk_ok (by decide), if_pos (s0.symm.trans d0)]
      · have d0' : ¬ gA b 2 0 = 1 := fun e => d0 (s0.trans e)
        by_cases d1 : gA a 2 1 = 1
        · refine two 1 0 32 (Or.inr rfl) (Or.inl ⟨rfl, rfl⟩) rfl rfl (by decide) ?_ ?_
          · unfold X_staleLeg; rw [chk_ok (by decide), if_neg d0, chk_ok (by decide), if_pos d1]
          · unfold X_staleLeg; rw [chk_ok (by decide), if_neg d0', chk_ok (by decide), if_pos (s1.symm.trans d1)]
        · have d1' : ¬ gA b 2 1 = 1 := fun e => d1 (s1.trans e)
          refine ⟨-4, a, b, ?_, ?_, ha, hb, h⟩
          · unfold X_resync X_staleLeg; rw [if_pos c4, if_pos c5, chk_ok (by decide), if_neg d0, chk_ok (by decide), if_neg d1, Option.bind_some, if_pos rfl]
          · unfold X_resync X_staleLeg; rw [if_pos c4', if_pos c5', chk_ok (by decide), if_neg d0', chk_ok (by decide), if_neg d1', Option.bind_some, if_pos rfl]
    · have c5' : ¬ gI b 5 = 0 := fun e => c5 (e5.trans e)
      refine ⟨-3, a, b, ?_, ?_, ha, hb, h⟩
      · unfold X_resync; rw [if_pos c4, if_neg c5]
      · unfold X_resync; rw [if_pos c4', if_neg c5']
  · have c4' : ¬ gI b 4 = 0 := fun e => c4 (e4.trans e)
    refine ⟨-1, a, b, ?_, ?_, ha, hb, h⟩
    · unfold X_resync; rw [if_neg c4]
    · unfold X_resync; rw [if_neg c4']
theorem ne32 {n x y : Int32} (hn : NN n) (hx : Kn n x) (hy : Kn n y) : ¬ x = 32 + y := by
  intro e
  have := SD.ne (n := n) (s := 0) (d := 32) (Or.inl ⟨rfl, rfl⟩) hn hx hy
  rw [Int32.zero_add] at this
  exact this e
theorem lw0_mi {n rs : Int32} {ob : Rec} (hn : NN n) (h : MI n rs ob) (h5 : gI ob 5 = 1) (h8 : gI ob 8 = 0) : MI n rs (sI (sA ob 0 (gI ob 6) (gI ob 7)) 8 1) := by
  obtain ⟨g, bz, i1, i2⟩ := h
  rcases bz with e | ⟨-, h4, kb, -, hd⟩
  · rw [h5] at e; exact absurd e (by decide)
  have vx : ∀ x, ¬ x = gI ob 6 → gA (sI (sA ob 0 (gI ob 6) (gI ob 7)) 8 1) 0 x = gA ob 0 x := fun x hx => by
    rw [gA_sI, gA_sA, if_neg (fun h => hx h.2)]
  have vy : ∀ x, Kn n x → gA (sI (sA ob 0 (gI ob 6) (gI ob 7)) 8 1) 0 (32 + x) = gA ob 0 (32 + x) := fun x hx => vx _ (fun e => ne32 hn kb hx e.symm)
  refine ⟨g, Or.inr ⟨h5, h4, kb, Or.inr (Or.inl rfl), hd⟩, fun x hx e => ?_, fun a0 a1 a4 => ⟨fun x hx e => ?_, fun _ _ => ?_⟩⟩
  · by_cases c : x = gI ob 6
    · rw [c]; exact hd
    · rw [vx x c, vy x hx] at e; exact i1 x hx e
  · by_cases c : x = gI ob 6
    · exact ⟨h5, c, rfl⟩
    · rw [vx x c, vy x hx] at e
      have := ((i2 a0 a1 h4).1 x hx e).2.2
      rw [h8] at this; exact absurd this (by decide)
  · show gA (sI (sA ob 0 (gI ob 6) (gI ob 7)) 8 1) 0 (gI ob 6) = gI ob 7
    rw [gA_sI, gA_sA, if_pos ⟨rfl, rfl⟩]
theorem lw1_mi {n rs : Int32} {ob : Rec} (hn : NN n) (h : MI n rs ob) (h5 : gI ob 5 = 1) (h8 : gI ob 8 = 1) : MI n rs (sI (sA ob 0 (32 + gI ob 6) (gI ob 7)) 8 2) := by
  obtain ⟨g, bz, i1, i2⟩ := h
  rcases bz with e | ⟨-, h4, kb, -, hd⟩
  · rw [h5] at e; exact absurd e (by decide)
  have vx : ∀ x, Kn n x → gA (sI (sA ob 0 (32 + gI ob 6) (gI ob 7)) 8 2) 0 x = gA ob 0 x := fun x hx => by
    rw [gA_sI, gA_sA, if_neg (fun h => ne32 hn hx kb h.2)]
  have vy : ∀ x, Kn n x → ¬ x = gI ob 6 → gA (sI (sA ob 0 (32 + gI ob 6) (gI ob 7)) 8 2) 0 (32 + x) = gA ob 0 (32 + x) := fun x hx c => by
    rw [gA_sI, gA_sA, if_neg (fun h => c (bs_inj hn (Or.inr rfl) hx kb h.2))]
  have vb : gA (sI (sA ob 0 (32 + gI ob 6) (gI ob 7)) 8 2) 0 (32 + gI ob 6) = gI ob 7 := by rw [gA_sI, gA_sA, if_pos ⟨rfl, rfl⟩]
  refine ⟨g, Or.inr ⟨h5, h4, kb, Or.inr (Or.inr rfl), hd⟩, fun x hx e => ?_, fun a0 a1 a4 => ⟨fun x hx e => ?_, fun _ e => absurd e (by show ¬ (2 : Int32) = 1; decide)⟩⟩
  · by_cases c : x = gI ob 6
    · rw [c]; exact hd
    · rw [vx x hx, vy x hx c] at e; exact i1 x hx e
  · by_cases c : x = gI ob 6
    · rw [c, vx _ kb, vb] at e
      exact absurd ((i2 a0 a1 h4).2 h5 h8) e
    · rw [vx x hx, vy x hx c] at e
      exact absurd ((i2 a0 a1 h4).1 x hx e).2.1 c
theorem mi8 {n rs : Int32} {ob : Rec} (h : MI n rs ob) (hs : ¬ (gA ob 2 0 = 0 ∧ gA ob 2 1 = 0)) (c : Int32) (hc : c = 0 ∨ c = 1 ∨ c = 2) : MI n rs (sI ob 8 c) := by
  obtain ⟨g, bz, i1, i2⟩ := h
  refine ⟨g, ?_, i1, fun a0 a1 _ => absurd ⟨a0, a1⟩ hs⟩
  rcases bz with e | ⟨e5, e4, kb, -, hd⟩
  · exact Or.inl e
  · exact Or.inr ⟨e5, e4, kb, hc, hd⟩
theorem ack_e (NF : Nat) (hNF : 60 ≤ NF) {n rs : Int32} {ob : Rec} (hn : NN n) (hrs : RS rs) (h : MI n rs ob) (h5 : gI ob 5 = 1) (h8 : gI ob 8 = 2) : ∃ q, X_acknowledge NF ob = some q ∧ MI n rs q ∧ VE q (cl (sA ob 1 (gI ob 6) (gI ob 7))) := by
  obtain ⟨⟨g0, g1, g3⟩, bz, i1, i2⟩ := h
  rcases bz with e | ⟨-, h4, kb, -, hd⟩
  · rw [h5] at e; exact absurd e (by decide)
  have nb := n_b hn
  have kb0 := kb.1
  have kb1 := kb.2
  have T := tabM n hn rs hrs (gI ob 6) (kM hn kb)
  obtain ⟨A, eA, A1, A2⟩ := ao_l NF ((n + rs - 1) / rs) (gI ob 6 / rs) (by omega) 12 NF (cl (sA ob 1 (gI ob 6) (gI ob 7))) 0 (by omega) (by decide) (by rw [t0]; omega) g3
  have AI : ∀ k, gI A k = gI (cl (sA ob 1 (gI ob 6) (gI ob 7))) k := fun k => congrFun A1 k
  generalize hB : sA (sA A 4 (gI ob 6 / rs) 1) 5 (gI ob 6 / rs) 0 = B
  have BI : ∀ k, gI B k = gI (cl (sA ob 1 (gI ob 6) (gI ob 7))) k := fun k => by rw [← hB]; exact AI k
  have BA : ∀ (k : Nat) (x : Int32), k < 4 → gA B k x = gA (sA ob 1 (gI ob 6) (gI ob 7)) k x := by
    intro k x hk
    rw [← hB, gA_sA, if_neg (fun h => by have := h.1; omega), gA_sA, if_neg (fun h => by have := h.1; omega), A2 k x (by omega)]; rfl
  have BA' : ∀ (k : Nat) (x : Int32), k < 4 → ¬ k = 1 → gA B k x = gA ob k x := by
    intro k x hk hk1; rw [BA k x hk, gA_sA, if_neg (fun h => hk1 h.1)]
  have c : ∀ A : Option Rec, chk 32 (gI ob 6 / rs) A = A := fun A => chk_ok (by rw [t32]; omega)
  have pre : X_acknowledge NF ob = (X_bothActive B).bind fun r9 => if r9 = 0 then some B else (X_clearAged NF B).bind fun q12 => some q12 := by
    unfold X_acknowledge X_clearPending dvz
    have e1 : gI (sI (sI (sI (sI (sA ob 1 (gI ob 6) (gI ob 7)) 5 0) 6 (-1)) 7 0) 8 (-1)) 1 = rs := g1
    have eA' : X_ageOthers NF (sI (sI (sI (sI (sA ob 1 (gI ob 6) (gI ob 7)) 5 0) 6 (-1)) 7 0) 8 (-1)) (gI ob 6 / rs) = some A := eA
    rw [chk_ok (by rw [t32]; omega), Option.bind_some, e1, if_neg T.2.2.2.2.2.2.2.1, eA', Option.bind_some, c, c, hB]
  have veB : VE B (cl (sA ob 1 (gI ob 6) (gI ob 7))) := ⟨fun k _ => BI k, fun k x hk => BA k x (by omega)⟩
  by_cases s : gA ob 2 0 = 0 ∧ gA ob 2 1 = 0
  · have ba : X_bothActive B = some 1 := by
      unfold X_bothActive
      rw [chk_ok (by decide), if_pos ((BA' 2 0 (by omega) (by decide)).trans s.1), chk_ok (by decide), if_pos ((BA' 2 1 (by omega) (by decide)).trans s.2)]
    obtain ⟨q, eq, bq⟩ := ca_l NF ((n + rs - 1) / rs) (by omega) 12 NF B 0 (by omega) (by decide) (by rw [t0]; omega) ((BI 3).trans g3)
    have eqL : ∀ x, Kn n x → gA q 0 x = gA q 0 (32 + x) := by
      intro x hx
      rw [bq.2 0 x (by omega), bq.2 0 _ (by omega), BA' 0 _ (by omega) (by decide), BA' 0 _ (by omega) (by decide)]
      apply Classical.byContradiction
      intro e
      have := ((i2 s.1 s.2 h4).1 x hx e).2.2
      rw [h8] at this; exact absurd this (by decide)
    have q5 : gI q 5 = 0 := (bq.n 5).trans ((BI 5).trans rfl)
    refine ⟨q, ?_, ⟨⟨(bq.n 0).trans ((BI 0).trans g0), (bq.n 1).trans ((BI 1).trans g1), (bq.n 3).trans ((BI 3).trans g3)⟩, Or.inl q5, fun x hx e => absurd (eqL x hx) e, fun _ _ _ => ⟨fun x hx e => absurd (eqL x hx) e, fun e => ?_⟩⟩, bq.ve.trans veB⟩
    · rw [pre, ba, Option.bind_some, if_neg (by decide)]
      unfold X_clearAged
      rw [eq]; rfl
    · rw [q5] at e; exact absurd e (by decide)
  · have ba : X_bothActive B = some 0 := by
      unfold X_bothActive
      rw [chk_ok (by decide), BA' 2 0 (by omega) (by decide), chk_ok (by decide), BA' 2 1 (by omega) (by decide)]
      by_cases s0 : gA ob 2 0 = 0
      · rw [if_pos s0, if_neg (fun e => s ⟨s0, e⟩)]
      · rw [if_neg s0]
    have B5 : gI B 5 = 0 := (BI 5).trans rfl
    refine ⟨B, ?_, ⟨⟨(BI 0).trans g0, (BI 1).trans g1, (BI 3).trans g3⟩, Or.inl B5, fun x hx e => ?_, fun a0 a1 _ => absurd ⟨(BA' 2 0 (by omega) (by decide)).symm.trans a0, (BA' 2 1 (by omega) (by decide)).symm.trans a1⟩ s⟩, veB⟩
    · rw [pre, ba, Option.bind_some, if_pos rfl]
    · rw [BA' 3 _ (by omega) (by decide)]
      rw [BA' 0 _ (by omega) (by decide), BA' 0 _ (by omega) (by decide)] at e
      exact i1 x hx e
/-- the four roads of step -/
theorem sp_0 (NF : Nat) (hNF : 60 ≤ NF) {n : Int32} {ob : Rec} (hn : NN n) (h4 : gI ob 4 = 0) (h5 : gI ob 5 = 1) (kb : Kn n (gI ob 6)) (h8 : gI ob 8 = 0) (hs : ¬ gA ob 2 0 = 2) : X_step NF ob = some (1, sI (sA ob 0 (gI ob 6) (gI ob 7)) 8 1) := by
  obtain ⟨f, rfl⟩ : ∃ f, NF = f + 1 := ⟨NF - 1, by omega⟩
  have nb := n_b hn; have := kb.1; have := kb.2
  have z : (0 * 32 + gI ob 6 : Int32) = gI ob 6 := by rw [Int32.zero_mul, Int32.zero_add]
  unfold X_step; rw [if_pos h4, h5, if_neg (by decide)]
  show X_step_w19 (f + 1) (X_step_l19 (f + 1) f) ob = _
  unfold X_step_w19 X_step_b53
  rw [h8, if_neg (by decide), chk_ok (by decide), if_neg hs, if_neg (by decide), z, chk_ok (by rw [t64]; omega), if_pos rfl]; rfl
theorem b53_1 (NF : Nat) {n : Int32} {ob : Rec} (hn : NN n) (kb : Kn n (gI ob 6)) (h8 : gI ob 8 = 1) : X_step_b53 NF ob = some (2, sI (sA ob 0 (32 + gI ob 6) (gI ob 7)) 8 2) := by
  have z : (1 * 32 + gI ob 6 : Int32) = 32 + gI ob 6 := rfl
  have e := bs hn (s := 32) (Or.inr rfl) kb
  have nb := n_b hn; have := kb.1; have := kb.2
  rw [t32] at e
  unfold X_step_b53
  rw [h8, if_neg (by decide), z, chk_ok (by rw [t64, e]; omega), if_neg (by decide)]; rfl
theorem b53_2 (NF : Nat) {ob : Rec} (h8 : gI ob 8 = 2) : X_step_b53 NF ob = (X_acknowledge NF ob).bind fun q => some (3, q) := by
  unfold X_step_b53; rw [h8, if_pos (by decide)]
theorem l19_b {NF f : Nat} {ob : Rec} (c : Int32) (h8 : gI ob 8 = c) (h : c = 2 ∨ (L01 c ∧ ¬ gA ob 2 c = 2)) : X_step_l19 NF (f + 1) ob = X_step_b53 NF ob := by
  show X_step_w19 NF _ ob = _
  unfold X_step_w19
  rcases h with rfl | ⟨hc, hs⟩
  · rw [h8, if_pos (by decide)]
  · rw [h8, if_neg (by rcases hc with rfl | rfl <;> decide), chk2 hc, if_neg hs]
theorem l19_s {NF f : Nat} {ob : Rec} (c c' : Int32) (h8 : gI ob 8 = c) (hc : L01 c) (hs : gA ob 2 c = 2) (e : c + 1 = c') : X_step_l19 NF (f + 1) ob = X_step_l19 NF f (sI ob 8 c') := by
  show X_step_w19 NF _ ob = _
  unfold X_step_w19
  rw [h8, if_neg (by rcases hc with rfl | rfl <;> decide), chk2 hc, if_pos hs, e]
/-- where the cursor stands when step acts -/
theorem sk (NF : Nat) (hNF : 60 ≤ NF) {n rs : Int32} {ob : Rec} (h : MI n rs ob) (h4 : gI ob 4 = 0) (h5 : gI ob 5 = 1) : ∃ c, (c = 0 ∨ c = 1 ∨ c = 2) ∧ X_step NF ob = X_step_b53 NF (sI ob 8 c) ∧ MI n rs (sI ob 8 c) ∧ c = (if gI ob 8 = 0 then (if gA ob 2 0 = 2 then (if gA ob 2 1 = 2 then 2 else 1) else 0) else if gI ob 8 = 1 then (if gA ob 2 1 = 2 then 2 else 1) else 2) ∧ (c = 0 → gI ob 8 = 0 ∧ ¬ gA ob 2 0 = 2) := by
  obtain ⟨f, rfl⟩ : ∃ f, NF = f + 3 := ⟨NF - 3, by omega⟩
  have hm := h
  obtain ⟨g, bz, -, -⟩ := h
  have st : X_step (f + 3) ob = X_step_l19 (f + 3) (f + 2 + 1) ob := by
    unfold X_step; rw [if_pos h4, h5, if_neg (by decide)]
  have id8 : ∀ c : Int32, gI ob 8 = c → sI ob 8 c = ob := by
    intro c hc
    have : (fun j => if j = 8 then c else ob.1 j) = ob.1 := by
      funext j
      by_cases e : j = 8
      · rw [if_pos e, e]; exact hc.symm
      · rw [if_neg e]
    unfold sI
    rw [this]
  have two : ∀ (o : Rec) (c : Int32), sI (sI o 8 1) 8 c = sI o 8 c := by
    intro o c
    unfold sI
    congr 1
    funext j
    by_cases e : j = 8
    · simp [e]
    · simp [e]
  rcases bz with e | ⟨-, -, -, hc, -⟩
  · rw [h5] at e; exact absurd e (by decide)
  rcases hc with h8 | h8 | h8
  · by_cases s0 : gA ob 2 0 = 2
    · have na : ¬ (gA ob 2 0 = 0 ∧ gA ob 2 1 = 0) := fun x => by rw [s0] at x; exact absurd x.1 (by decide)
      by_cases s1 : gA ob 2 1 = 2
      · refine ⟨2, Or.inr (Or.inr rfl), ?_, mi8 hm na 2 (Or.inr (Or.inr rfl)), by rw [if_pos h8, if_pos s0, if_pos s1], fun e => absurd e (by decide)⟩
        rw [st, l19_s 0 1 h8 (Or.inl rfl) s0 rfl, l19_s (ob := sI ob 8 1) 1 2 rfl (Or.inr rfl) s1 rfl, l19_b (ob := sI (sI ob 8 1) 8 2) 2 rfl (Or.inl rfl), two]
      · refine ⟨1, Or.inr (Or.inl rfl), ?_, mi8 hm na 1 (Or.inr (Or.inl rfl)), by rw [if_pos h8, if_pos s0, if_neg s1], fun e => absurd e (by decide)⟩
        rw [st, l19_s 0 1 h8 (Or.inl rfl) s0 rfl, l19_b (ob := sI ob 8 1) 1 rfl (Or.inr ⟨Or.inr rfl, s1⟩)]
    · refine ⟨0, Or.inl rfl, ?_, by rw [id8 0 h8]; exact hm, by rw [if_pos h8, if_neg s0], fun _ => ⟨h8, s0⟩⟩
      rw [st, l19_b 0 h8 (Or.inr ⟨Or.inl rfl, s0⟩), id8 0 h8]
  · have n8 : ¬ gI ob 8 = 0 := by rw [h8]; decide
    by_cases s1 : gA ob 2 1 = 2
    · have na : ¬ (gA ob 2 0 = 0 ∧ gA ob 2 1 = 0) := fun x => by rw [s1] at x; exact absurd x.2 (by decide)
      refine ⟨2, Or.inr (Or.inr rfl), ?_, mi8 hm na 2 (Or.inr (Or.inr rfl)), by rw [if_neg n8, if_pos h8, if_pos s1], fun e => absurd e (by decide)⟩
      rw [st, l19_s 1 2 h8 (Or.inr rfl) s1 rfl, l19_b (ob := sI ob 8 2) 2 rfl (Or.inl rfl)]
    · refine ⟨1, Or.inr (Or.inl rfl), ?_, by rw [id8 1 h8]; exact hm, by rw [if_neg n8, if_pos h8, if_neg s1], fun e => absurd e (by decide)⟩
      rw [st, l19_b 1 h8 (Or.inr ⟨Or.inr rfl, s1⟩), id8 1 h8]
  · have n8 : ¬ gI ob 8 = 0 := by rw [h8]; decide
    have n81 : ¬ gI ob 8 = 1 := by rw [h8]; decide
    refine ⟨2, Or.inr (Or.inr rfl), ?_, by rw [id8 2 h8]; exact hm, by rw [if_neg n8, if_neg n81], fun e => absurd e (by decide)⟩
    rw [st, l19_b 2 h8 (Or.inl rfl), id8 2 h8]
theorem MI.kb {n rs : Int32} {ob : Rec} (h : MI n rs ob) (h5 : gI ob 5 = 1) : Kn n (gI ob 6) := by
  rcases h.2.1 with e | ⟨-, -, kb, -, -⟩
  · rw [h5] at e; exact absurd e (by decide)
  · exact kb
theorem step2 (NF : Nat) (hNF : 60 ≤ NF) {n ra rb : Int32} {a b : Rec} (hn : NN n) (hra : RS ra) (hrb : RS rb) (ha : MI n ra a) (hb : MI n rb b) (h : VE a b) : Two n ra rb (X_step NF a) (X_step NF b) := by
  have e4 := h.1 4 (by omega)
  have e5 := h.1 5 (by omega)
  have e8 := h.1 8 (by omega)
  have s0 := h.2 2 0 (by omega)
  have s1 := h.2 2 1 (by omega)
  by_cases c4 : gI a 4 = 0
  · have c4' : gI b 4 = 0 := e4.symm.trans c4
    by_cases c5 : gI a 5 = 0
    · have c5' : gI b 5 = 0 := e5.symm.trans c5
      refine ⟨-5, a, b, ?_, ?_, ha, hb, h⟩
      · unfold X_step; rw [if_pos c4, if_pos c5]
      · unfold X_step; rw [if_pos c4', if_pos c5']
    · have h5 : gI a 5 = 1 := by
        rcases ha.2.1 with e | e
        · exact absurd e c5
        · exact e.1
      have h5' : gI b 5 = 1 := e5.symm.trans h5
      obtain ⟨c, hc, ea, ma, va, ka⟩ := sk NF hNF ha c4 h5
      obtain ⟨c', hc', eb, mb, vb, kb⟩ := sk NF hNF hb c4' h5'
      have cc : c' = c := by rw [va, vb, ← e8, ← s0, ← s1]
      subst cc
      have hv : VE (sI a 8 c') (sI b 8 c') := h.sI 8 c'
      rw [ea, eb]
      have e6 : gI a 6 = gI b 6 := h.1 6 (by omega)
      have e7 : gI a 7 = gI b 7 := h.1 7 (by omega)
      have kA : Kn n (gI (sI a 8 c') 6) := ha.kb h5
      have kB : Kn n (gI (sI b 8 c') 6) := hb.kb h5'
      rcases hc with rfl | rfl | rfl
      · rw [← ea, ← eb]
        refine ⟨1, _, _, sp_0 NF hNF hn c4 h5 (ha.kb h5) (ka rfl).1 (ka rfl).2, sp_0 NF hNF hn c4' h5' (hb.kb h5') (kb rfl).1 (kb rfl).2, lw0_mi hn ha h5 (ka rfl).1, lw0_mi hn hb h5' (kb rfl).1, ?_⟩
        rw [← e6, ← e7]
        exact (h.sA 0 _ _).sI 8 1
      · refine ⟨2, _, _, b53_1 NF hn kA rfl, b53_1 NF hn kB rfl, lw1_mi hn ma h5 rfl, lw1_mi hn mb h5' rfl, ?_⟩
        have f6 : gI (sI a 8 1) 6 = gI (sI b 8 1) 6 := e6
        have f7 : gI (sI a 8 1) 7 = gI (sI b 8 1) 7 := e7
        rw [← f6, ← f7]
        exact (hv.sA 0 _ _).sI 8 2
      · obtain ⟨qa, fa, mA, vA⟩ := ack_e NF hNF hn hra ma h5 rfl
        obtain ⟨qb, fb, mB, vB⟩ := ack_e NF hNF hn hrb mb h5' rfl
        refine ⟨3, qa, qb, ?_, ?_, mA, mB, ?_⟩
        · rw [b53_2 NF rfl, fa, Option.bind_some]
        · rw [b53_2 NF rfl, fb, Option.bind_some]
        · have f6 : gI (sI a 8 2) 6 = gI (sI b 8 2) 6 := e6
          have f7 : gI (sI a 8 2) 7 = gI (sI b 8 2) 7 := e7
          refine vA.trans (VE.trans ?_ vB.symm)
          rw [← f6, ← f7]
          exact cl_ve (hv.sA 1 _ _)
  · have c4' : ¬ gI b 4 = 0 := fun e => c4 (e4.trans e)
    refine ⟨-1, a, b, ?_, ?_, ha, hb, h⟩
    · unfold X_step; rw [if_neg c4]
    · unfold X_step; rw [if_neg c4']
-- USE: fld mr mrs
theorem ofN {k : Nat} (h : k ≤ 1000) : (Int32.ofNat k).toInt = k := Int32.toInt_ofNat_of_lt (by omega)
theorem ofI {i : Int32} (h : 0 ≤ i.toInt ∧ i.toInt ≤ 1000) : Int32.ofNat i.toInt.toNat = i := by
  rw [eq_i32, ofN (by omega)]; omega
theorem t12 : (12 : Int32).toInt = 12 := rfl
theorem N12 : NN 12 := by decide
theorem pos5 : ∀ n ∈ List.range 12, ((((5 : Int32) * Int32.ofNat n) &&& 0x3f).toInt64.toUInt64.toBitVec % 64).toNat = 5 * n ∧ ((((5 : Int32) * Int32.ofNat n) &&& 0x3f).toInt64.toBitVec.smod 64).toNat = 5 * n := by decide +kernel
theorem pos5' {x : Int32} (hx : Kn 12 x) : ((((5 : Int32) * x) &&& 0x3f).toInt64.toUInt64.toBitVec % 64).toNat = 5 * x.toInt.toNat ∧ ((((5 : Int32) * x) &&& 0x3f).toInt64.toBitVec.smod 64).toNat = 5 * x.toInt.toNat := by
  have h0 := hx.1; have h1 := hx.2
  rw [t12] at h1
  have := pos5 x.toInt.toNat (List.mem_range.mpr (by omega))
  rw [ofI (by omega)] at this
  exact this
theorem m31 (i : Nat) : (31 : Int64).toBitVec.getLsbD i = decide (i < 5) := by
  have h : ∀ i ∈ List.range 64, (31 : Int64).toBitVec.getLsbD i = decide (i < 5) := by decide +kernel
  by_cases c : i < 64
  · exact h i (List.mem_range.mpr c)
  · rw [BitVec.getLsbD_of_ge _ i (by omega)]
    have : ¬ i < 5 := by omega
    simp [this]
abbrev V5 (v : Int32) : Prop := 0 ≤ v.toInt ∧ v.toInt < 2 ^ 5
/-- the long l holds the twelve values g -/
def FB (l : Int64) (g : Int32 → Int32) : Prop := ∀ x, Kn 12 x → V5 (g x) ∧ fb l (5 * x.toInt.toNat) 5 (g x)
theorem get_e {l : Int64} {g : Int32 → Int32} (h : FB l g) {x : Int32} (hx : Kn 12 x) : L_get l x = some (g x) := by
  unfold L_get
  rw [fb_get l 31 _ (g x) _ 5 (pos5' hx).1 m31 (h x hx).1 (by omega) (h x hx).2]
theorem FB.c {l : Int64} {g g' : Int32 → Int32} (h : FB l g) (e : ∀ x, Kn 12 x → g' x = g x) : FB l g' := fun x hx => by rw [e x hx]; exact h x hx
theorem FB0 {g : Int32 → Int32} (e : ∀ x, Kn 12 x → g x = 0) : FB 0 g := fun x hx => by rw [e x hx]; exact ⟨by decide, fb0 _ _⟩
abbrev ST (s : Int32) : Prop := s = 0 ∨ s = 1 ∨ s = 2
theorem pk_0 {ob : Rec} {b : Int32} (h0 : gI ob 0 = 12) (hb : Kn 12 b) : X_peek ob 0 b = some (gA ob 0 b) := by
  have u := hb.1; have w := hb.2
  rw [t12] at w
  have z : (0 * 32 + b : Int32) = b := by rw [Int32.zero_mul, Int32.zero_add]
  unfold X_peek
  rw [vl_e ob (Or.inl rfl), Option.bind_some, if_neg (by decide), vb_e h0 hb, Option.bind_some, if_neg (by decide), z, chk_ok (by rw [t64]; omega)]
theorem pk_1 {ob : Rec} {b : Int32} (h0 : gI ob 0 = 12) (hb : Kn 12 b) : X_peek ob 1 b = some (gA ob 0 (32 + b)) := by
  have u := hb.1; have w := hb.2
  rw [t12] at w
  have e := bs N12 (s := 32) (Or.inr rfl) hb
  rw [t32] at e
  have z : (1 * 32 + b : Int32) = 32 + b := rfl
  unfold X_peek
  rw [vl_e ob (Or.inr rfl), Option.bind_some, if_neg (by decide), vb_e h0 hb, Option.bind_some, if_neg (by decide), z, chk_ok (by rw [t64, e]; omega)]
theorem rd_e {ob : Rec} {b : Int32} (h0 : gI ob 0 = 12) (h4 : gI ob 4 = 0) (hb : Kn 12 b) : X_read ob b = some (if gA ob 2 0 = 0 then gA ob 0 b else gA ob 0 (32 + b)) := by
  have u := hb.1; have w := hb.2
  rw [t12] at w
  have e := bs N12 (s := 32) (Or.inr rfl) hb
  rw [t32] at e
  have z : (0 * 32 + b : Int32) = b := by rw [Int32.zero_mul, Int32.zero_add]
  have z1 : (1 * 32 + b : Int32) = 32 + b := rfl
  unfold X_read
  rw [if_pos h4, vb_e h0 hb, Option.bind_some, if_neg (by decide), chk_ok (by decide), z, z1, chk_ok (by rw [t64]; omega), chk_ok (by rw [t64, e]; omega)]
  split <;> rfl
theorem ak_e {ob : Rec} {b : Int32} (h0 : gI ob 0 = 12) (hb : Kn 12 b) : X_ackedValue ob b = some (gA ob 1 b) := by
  have u := hb.1; have w := hb.2
  rw [t12] at w
  unfold X_ackedValue
  rw [vb_e h0 hb, Option.bind_some, if_neg (by decide), chk_ok (by rw [t32]; omega)]
theorem ls_e (ob : Rec) {i : Int32} (hi : L01 i) : X_legState ob i = some (gA ob 2 i) := by
  unfold X_legState; rw [vl_e ob hi, Option.bind_some, if_neg (by decide), chk2 hi]
theorem VEr (ob : Rec) : VE ob ob := ⟨fun _ _ => rfl, fun _ _ _ => rfl⟩
theorem cr_mi {n rs : Int32} {ob : Rec} (hm : MI n rs ob) : MI n rs (sI (cl ob) 4 1) := by
  obtain ⟨g, -, i1, -⟩ := hm
  exact ⟨g, Or.inl rfl, i1, fun _ _ h4 => absurd h4 (by show ¬ (1 : Int32) = 0; decide)⟩
theorem rst_mi {n rs : Int32} {ob : Rec} (hm : MI n rs ob) (h4 : ¬ gI ob 4 = 0) : (¬ (gA ob 2 0 = 0 ∧ gA ob 2 1 = 0) → MI n rs (sI ob 4 0)) ∧ MI n rs (sA (sI ob 4 0) 2 1 1) := by
  obtain ⟨g, b, i1, -⟩ := hm
  refine ⟨fun hs => ⟨g, b.imp id (fun b => absurd b.2.1 h4), i1, fun a0 a1 _ => absurd ⟨a0, a1⟩ hs⟩, g, b.imp id (fun b => absurd b.2.1 h4), i1, fun a0 a1 _ => ?_⟩
  rw [gA_sA, if_pos ⟨rfl, rfl⟩] at a1; exact absurd a1 (by decide)
theorem and_r (x m : Int32) (k : Nat) (hm : m.toBitVec.toNat = k) (hk : k < 2147483648) : 0 ≤ (x &&& m).toInt ∧ (x &&& m).toInt ≤ (k : Int) := by
  have h1 : (x &&& m).toBitVec.toNat = x.toBitVec.toNat &&& m.toBitVec.toNat := by rw [Int32.toBitVec_and, BitVec.toNat_and]
  have h2 : (x &&& m).toBitVec.toNat ≤ k := by rw [h1, hm]; exact Nat.and_le_right
  have h3 : (x &&& m).toInt = ((x &&& m).toBitVec.toNat : Int) := by
    show (x &&& m).toBitVec.toInt = _
    exact BitVec.toInt_eq_toNat_of_lt (by omega)
  rw [h3]; omega
theorem cl14 (a : Int32) : ∃ v, X_clamp a 1 4 = some v ∧ RS v := by
  unfold X_clamp
  by_cases h1 : a < 1
  · exact ⟨1, by rw [if_pos h1], by decide⟩
  · by_cases h2 : 4 < a
    · exact ⟨4, by rw [if_neg h1, if_pos h2], by decide⟩
    · refine ⟨a, by rw [if_neg h1, if_neg h2], ?_⟩
      simp only [lt_i, Int32.reduceToInt] at h1 h2
      simp only [List.mem_cons, eq_i32, Int32.reduceToInt, List.not_mem_nil, or_false]
      omega
theorem clx (a b c : Int32) : ∃ v, X_clamp a b c = some v := by
  unfold X_clamp
  split
  · exact ⟨_, rfl⟩
  · split <;> exact ⟨_, rfl⟩
abbrev V30 (v : Int32) : Prop := 0 ≤ v.toInt ∧ v.toInt ≤ 30
def VB (g : Int32 → Int32) : Prop := ∀ x, Kn 12 x → V30 (g x)
def P (rs : Int32) (ob : Rec) : Prop := MI 12 rs ob ∧ (gI ob 4 = 0 ∨ gI ob 4 = 1) ∧ (gI ob 5 = 0 ∨ gI ob 5 = 1) ∧ (gI ob 5 = 1 → V30 (gI ob 7)) ∧ (ST (gA ob 2 0) ∧ ST (gA ob 2 1) ∧ (gA ob 2 0 = 0 ∨ gA ob 2 1 = 0)) ∧ VB (fun x => gA ob 0 x) ∧ VB (fun x => gA ob 0 (32 + x)) ∧ VB (fun x => gA ob 1 x)
theorem write_p {rs : Int32} (hrs : RS rs) {ob : Rec} (h : P rs ob) (blk val : Int32) (hval : val.toInt ≤ 30) : ∃ r q, X_write ob blk val = some (r, q) ∧ P rs q := by
  have hP := h
  obtain ⟨hm, hd, hp, hb, hs, f0, f1, fk⟩ := h
  by_cases a4 : gI ob 4 = 0
  · by_cases cb : Kn 12 blk
    · by_cases cv : val < 0
      · exact ⟨-2, ob, by unfold X_write; rw [if_pos a4, vb_e hm.1.1 cb, Option.bind_some, if_neg (by decide), if_pos cv], hP⟩
      · have tv : (65535 : Int32).toInt = 65535 := rfl
        have cv2 : ¬ 65535 < val := by rw [lt_i, tv]; omega
        by_cases a5 : gI ob 5 = 0
        · have T := tabM 12 N12 rs hrs blk (kM N12 cb)
          have c : ∀ A : Option Rec, chk 32 (blk / rs) A = A := fun A => chk_ok (by rw [t32]; omega)
          have bk : ∀ (k : Nat) (y : Int32), k < 3 → gA (wr ob (blk / rs) blk val) k y = gA ob k y := fun k y hk => (Bm.set ob (blk / rs) 1 0 0).2 k y hk
          refine ⟨0, wr ob (blk / rs) blk val, ?_, wr_mi hm a4 a5 cb, hd, Or.inr rfl, fun _ => ?_, ?_, fun x hx => ?_, fun x hx => ?_, fun x hx => ?_⟩
          · unfold X_write X_markDirty dvz
            rw [if_pos a4, vb_e hm.1.1 cb, Option.bind_some, if_neg (by decide), if_neg cv, if_neg cv2, if_pos a5, hm.1.2.1, if_neg T.2.2.2.2.2.2.2.1, c, c, c, Option.bind_some]; rfl
          · show V30 val
            rw [lt_i, t0] at cv
            constructor <;> omega
          · rw [bk 2 0 (by omega), bk 2 1 (by omega)]; exact hs
          · show V30 (gA (wr ob (blk / rs) blk val) 0 x)
            rw [bk 0 _ (by omega)]; exact f0 x hx
          · show V30 (gA (wr ob (blk / rs) blk val) 0 (32 + x))
            rw [bk 0 _ (by omega)]; exact f1 x hx
          · show V30 (gA (wr ob (blk / rs) blk val) 1 x)
            rw [bk 1 _ (by omega)]; exact fk x hx
        · exact ⟨-3, ob, by unfold X_write; rw [if_pos a4, vb_e hm.1.1 cb, Option.bind_some, if_neg (by decide), if_neg cv, if_neg cv2, if_neg a5], hP⟩
    · exact ⟨-2, ob, by unfold X_write; rw [if_pos a4, vb_n hm.1.1 cb, Option.bind_some, if_pos rfl], hP⟩
  · exact ⟨-1, ob, by unfold X_write; rw [if_neg a4], hP⟩
theorem crash_p {rs : Int32} {ob : Rec} (h : P rs ob) : ∃ r q, X_crash ob = some (r, q) ∧ P rs q := by
  have hP := h
  obtain ⟨hm, hd, hp, hb, hs, f0, f1, fk⟩ := h
  by_cases a4 : gI ob 4 = 0
  · exact ⟨0, sI (cl ob) 4 1, by unfold X_crash X_clearPending; rw [if_pos a4, Option.bind_some]; rfl, cr_mi hm, Or.inr rfl, Or.inl rfl, fun e => absurd e (by show ¬ (0 : Int32) = 1; decide), hs, f0, f1, fk⟩
  · exact ⟨-1, ob, by unfold X_crash; rw [if_neg a4], hP⟩
theorem restart_p {rs : Int32} {ob : Rec} (h : P rs ob) : ∃ r q, X_restart ob = some (r, q) ∧ P rs q ∧ gI q 4 = 0 := by
  have hP := h
  obtain ⟨hm, hd, hp, hb, hs, f0, f1, fk⟩ := h
  by_cases a4 : gI ob 4 = 0
  · exact ⟨-4, ob, by unfold X_restart; rw [if_pos a4], hP, a4⟩
  · by_cases c0 : gA ob 2 0 = 0
    · by_cases c1 : gA ob 2 1 = 0
      · exact ⟨0, sA (sI ob 4 0) 2 1 1, by unfold X_restart; rw [if_neg a4, chk_ok (by decide), if_pos c0, chk_ok (by decide), if_pos c1, chk_ok (by decide)], ⟨(rst_mi hm a4).2, Or.inl rfl, hp, hb, ⟨hs.1, Or.inr (Or.inl rfl), Or.inl c0⟩, f0, f1, fk⟩, rfl⟩
      · exact ⟨0, sI ob 4 0, by unfold X_restart; rw [if_neg a4, chk_ok (by decide), if_pos c0, chk_ok (by decide), if_neg c1], ⟨(rst_mi hm a4).1 (fun x => c1 x.2), Or.inl rfl, hp, hb, hs, f0, f1, fk⟩, rfl⟩
    · exact ⟨0, sI ob 4 0, by unfold X_restart; rw [if_neg a4, chk_ok (by decide), if_neg c0], ⟨(rst_mi hm a4).1 (fun x => c0 x.1), Or.inl rfl, hp, hb, hs, f0, f1, fk⟩, rfl⟩
/-- a leg's state is set, the other leg being ACTIVE -/
theorem leg_p {ob q : Rec} {leg v : Int32} (hl : L01 leg) (hv : ST v) (ho : gA ob 2 (1 - leg) = 0) (hq : ∀ x, gA q 2 x = if x = leg then v else gA ob 2 x) : ST (gA q 2 0) ∧ ST (gA q 2 1) ∧ (gA q 2 0 = 0 ∨ gA q 2 1 = 0) := by
  rcases hl with e | e
  · have o : gA ob 2 1 = 0 := by rw [e] at ho; exact ho
    rw [hq, hq, e, if_pos rfl, if_neg (by decide), o]
    exact ⟨hv, Or.inl rfl, Or.inr rfl⟩
  · have o : gA ob 2 0 = 0 := by rw [e] at ho; exact ho
    rw [hq, hq, e, if_neg (by decide), if_pos rfl, o]
    exact ⟨Or.inl rfl, hv, Or.inl rfl⟩
theorem fail_p {rs : Int32} {ob : Rec} (h : P rs ob) (leg : Int32) : ∃ r q, X_failLeg ob leg = some (r, q) ∧ P rs q := by
  have hP := h
  obtain ⟨hm, hd, hp, hb, hs, f0, f1, fk⟩ := h
  by_cases a4 : gI ob 4 = 0
  · by_cases hl : L01 leg
    · by_cases c2 : gA ob 2 leg = 2
      · exact ⟨-4, ob, by unfold X_failLeg; rw [if_pos a4, vl_e ob hl, Option.bind_some, if_neg (by decide), chk2 hl, if_pos c2], hP⟩
      · by_cases c0 : gA ob 2 (1 - leg) = 0
        · exact ⟨0, sA ob 2 leg 2, by unfold X_failLeg; rw [if_pos a4, vl_e ob hl, Option.bind_some, if_neg (by decide), chk2 hl, if_neg c2, chk2 (ot hl), if_pos c0, chk2 hl], hm.st leg 2 hl (by decide), hd, hp, hb, leg_p hl (Or.inr (Or.inr rfl)) c0 (fun x => by rw [gA_sA]; simp), f0, f1, fk⟩
        · exact ⟨-4, ob, by unfold X_failLeg; rw [if_pos a4, vl_e ob hl, Option.bind_some, if_neg (by decide), chk2 hl, if_neg c2, chk2 (ot hl), if_neg c0], hP⟩
    · exact ⟨-2, ob, by unfold X_failLeg; rw [if_pos a4, vl_n ob hl, Option.bind_some, if_pos rfl], hP⟩
  · exact ⟨-1, ob, by unfold X_failLeg; rw [if_neg a4], hP⟩
theorem cd_p {rs : Int32} {ob : Rec} (h : P rs ob) (leg : Int32) : ∃ r, X_checkDetached ob leg = some r ∧ (r = 0 → L01 leg ∧ gI ob 4 = 0 ∧ gI ob 5 = 0 ∧ gA ob 2 (1 - leg) = 0) := by
  obtain ⟨hm, hd, hp, hb, hs, f0, f1, fk⟩ := h
  have n1 : ¬ (-1 : Int32) = 0 := by decide
  have n2 : ¬ (-2 : Int32) = 0 := by decide
  have n3 : ¬ (-3 : Int32) = 0 := by decide
  have n4 : ¬ (-4 : Int32) = 0 := by decide
  unfold X_checkDetached
  by_cases a4 : gI ob 4 = 0
  · rw [if_pos a4]
    by_cases hl : L01 leg
    · rw [vl_e ob hl, Option.bind_some, if_neg (by decide)]
      by_cases a5 : gI ob 5 = 0
      · rw [if_pos a5, chk2 hl]
        by_cases c2 : gA ob 2 leg = 2
        · rw [if_pos c2]
          refine ⟨0, rfl, fun _ => ⟨hl, a4, a5, ?_⟩⟩
          rcases hl with e | e
          · rw [e] at c2 ⊢
            rcases hs.2.2 with s | s
            · rw [s] at c2; exact absurd c2 (by decide)
            · exact s
          · rw [e] at c2 ⊢
            rcases hs.2.2 with s | s
            · exact s
            · rw [s] at c2; exact absurd c2 (by decide)
        · rw [if_neg c2]; exact ⟨-4, rfl, fun e => absurd e n4⟩
      · rw [if_neg a5]; exact ⟨-3, rfl, fun e => absurd e n3⟩
    · rw [vl_n ob hl, Option.bind_some, if_pos rfl]; exact ⟨-2, rfl, fun e => absurd e n2⟩
  · rw [if_neg a4]; exact ⟨-1, rfl, fun e => absurd e n1⟩
theorem reat_p {rs : Int32} {ob : Rec} (h : P rs ob) (leg : Int32) : ∃ r q, X_reattachLeg ob leg = some (r, q) ∧ P rs q := by
  have hP := h
  obtain ⟨r, er, hr⟩ := cd_p h leg
  obtain ⟨hm, hd, hp, hb, hs, f0, f1, fk⟩ := h
  by_cases c : r = 0
  · obtain ⟨hl, a4, a5, o⟩ := hr c
    exact ⟨0, sA ob 2 leg 1, by unfold X_reattachLeg; rw [er, Option.bind_some, if_pos c, chk2 hl], hm.st leg 1 hl (by decide), hd, hp, hb, leg_p hl (Or.inr (Or.inl rfl)) o (fun x => by rw [gA_sA]; simp), f0, f1, fk⟩
  · exact ⟨r, ob, by unfold X_reattachLeg; rw [er, Option.bind_some, if_neg c], hP⟩
theorem z30 : V30 0 := by decide
theorem repl_p (NF : Nat) (hNF : 60 ≤ NF) {rs : Int32} (hrs : RS rs) {ob : Rec} (h : P rs ob) (leg : Int32) : ∃ r q, X_replaceLeg NF ob leg = some (r, q) ∧ P rs q := by
  have hP := h
  obtain ⟨r, er, hr⟩ := cd_p h leg
  obtain ⟨hm, hd, hp, hb, hs, f0, f1, fk⟩ := h
  by_cases c : r = 0
  · obtain ⟨hl, a4, a5, o⟩ := hr c
    rw [c] at er
    obtain ⟨q, e, mi, q1, q2, q3, q4, q5⟩ := rp1 NF hNF N12 hrs hm hl a5 er
    have val : ∀ y, V30 (gA ob 0 y) → V30 (gA q 0 y) := by
      intro y hy
      by_cases ex : ∃ x, Kn 12 x ∧ y = leg * 32 + x
      · obtain ⟨x, hx, rfl⟩ := ex
        rw [q5 x hx]; exact z30
      · rw [q4 y (fun x hx e => ex ⟨x, hx, e⟩)]; exact hy
    exact ⟨0, q, e, mi, by rw [q1]; exact hd, by rw [q1]; exact hp, by rw [q1, q1]; exact hb, leg_p hl (Or.inr (Or.inl rfl)) o q3, fun x hx => val _ (f0 x hx), fun x hx => val _ (f1 x hx), fun x hx => by show V30 (gA q 1 x); rw [q2]; exact fk x hx⟩
  · exact ⟨r, ob, by unfold X_replaceLeg; rw [er, Option.bind_some, if_neg c], hP⟩
/-- resync: nothing stale, or all equal and ACTIVE -/
theorem resync_p (NF : Nat) (hNF : 60 ≤ NF) {rs : Int32} (hrs : RS rs) {ob : Rec} (h : P rs ob) (a4 : gI ob 4 = 0) (a5 : gI ob 5 = 0) : (¬ (gA ob 2 0 = 1 ∨ gA ob 2 1 = 1) ∧ X_resync NF ob = some (-4, ob)) ∨ ((gA ob 2 0 = 1 ∨ gA ob 2 1 = 1) ∧ ∃ q, X_resync NF ob = some (0, q) ∧ P rs q ∧ (∀ k, gI q k = gI ob k) ∧ gA q 2 0 = 0 ∧ gA q 2 1 = 0 ∧ (∀ x, gA q 1 x = gA ob 1 x) ∧ ∀ x, Kn 12 x → gA q 0 x = (if gA ob 2 0 = 0 then gA ob 0 x else gA ob 0 (32 + x)) ∧ gA q 0 (32 + x) = (if gA ob 2 0 = 0 then gA ob 0 x else gA ob 0 (32 + x))) := by
  have hP := h
  obtain ⟨hm, hd, hp, hb, hs, f0, f1, fk⟩ := h
  by_cases c0 : gA ob 2 0 = 1
  · right
    have n0 : ¬ gA ob 2 0 = 0 := by rw [c0]; decide
    have c1 : gA ob 2 1 = 0 := hs.2.2.resolve_left n0
    have es : X_staleLeg ob = some 0 := by unfold X_staleLeg; rw [chk_ok (by decide), if_pos c0]
    obtain ⟨q, e, mi, q1, q2, q3, q4, q5⟩ := rsy1 NF hNF (i := 0) (s := 32) (d := 0) N12 hrs hm a4 a5 (Or.inl rfl) (Or.inr ⟨rfl, rfl⟩) rfl rfl (by decide) es
    have g0 : ∀ x, Kn 12 x → gA q 0 x = gA ob 0 (32 + x) := fun x hx => by
      have := q5 x hx
      rw [Int32.zero_add] at this; exact this
    have g1 : ∀ x, Kn 12 x → gA q 0 (32 + x) = gA ob 0 (32 + x) := fun x hx => q4 _ (fun y hy e => by rw [Int32.zero_add] at e; exact ne32 N12 hy hx e.symm)
    have s0 : gA q 2 0 = 0 := by rw [q3, if_pos rfl]
    have s1 : gA q 2 1 = 0 := by rw [q3, if_neg (by decide)]; exact c1
    refine ⟨Or.inl c0, q, e, ⟨mi, by rw [q1]; exact hd, by rw [q1]; exact hp, by rw [q1, q1]; exact hb, ⟨Or.inl s0, Or.inl s1, Or.inl s0⟩, fun x hx => ?_, fun x hx => ?_, fun x hx => ?_⟩, q1, s0, s1, q2, fun x hx => ?_⟩
    · show V30 (gA q 0 x)
      rw [g0 x hx]; exact f1 x hx
    · show V30 (gA q 0 (32 + x))
      rw [g1 x hx]; exact f1 x hx
    · show V30 (gA q 1 x)
      rw [q2]; exact fk x hx
    · rw [if_neg n0]; exact ⟨g0 x hx, g1 x hx⟩
  · by_cases c1 : gA ob 2 1 = 1
    · right
      have n1 : ¬ gA ob 2 1 = 0 := by rw [c1]; decide
      have c0' : gA ob 2 0 = 0 := hs.2.2.resolve_right n1
      have es : X_staleLeg ob = some 1 := by unfold X_staleLeg; rw [chk_ok (by decide), if_neg c0, chk_ok (by decide), if_pos c1]
      obtain ⟨q, e, mi, q1, q2, q3, q4, q5⟩ := rsy1 NF hNF (i := 1) (s := 0) (d := 32) N12 hrs hm a4 a5 (Or.inr rfl) (Or.inl ⟨rfl, rfl⟩) rfl rfl (by decide) es
      have g1 : ∀ x, Kn 12 x → gA q 0 (32 + x) = gA ob 0 x := fun x hx => by
        have := q5 x hx
        rw [Int32.zero_add] at this; exact this
      have g0 : ∀ x, Kn 12 x → gA q 0 x = gA ob 0 x := fun x hx => q4 _ (fun y hy e => ne32 N12 hx hy e)
      have s0 : gA q 2 0 = 0 := by rw [q3, if_neg (by decide)]; exact c0'
      have s1 : gA q 2 1 = 0 := by rw [q3, if_pos rfl]
      refine ⟨Or.inr c1, q, e, ⟨mi, by rw [q1]; exact hd, by rw [q1]; exact hp, by rw [q1, q1]; exact hb, ⟨Or.inl s0, Or.inl s1, Or.inl s0⟩, fun x hx => ?_, fun x hx => ?_, fun x hx => ?_⟩, q1, s0, s1, q2, fun x hx => ?_⟩
      · show V30 (gA q 0 x)
        rw [g0 x hx]; exact f0 x hx
      · show V30 (gA q 0 (32 + x))
        rw [g1 x hx]; exact f0 x hx
      · show V30 (gA q 1 x)
        rw [q2]; exact fk x hx
      · rw [if_pos c0']; exact ⟨g0 x hx, g1 x hx⟩
    · left
      refine ⟨fun x => x.elim c0 c1, ?_⟩
      unfold X_resync X_staleLeg
      rw [if_pos a4, if_pos a5, chk_ok (by decide), if_neg c0, chk_ok (by decide), if_neg c1, Option.bind_some, if_pos rfl]
theorem resync_q (NF : Nat) (hNF : 60 ≤ NF) {rs : Int32} (hrs : RS rs) {ob : Rec} (h : P rs ob) : ∃ r q, X_resync NF ob = some (r, q) ∧ P rs q := by
  by_cases a4 : gI ob 4 = 0
  · by_cases a5 : gI ob 5 = 0
    · rcases resync_p NF hNF hrs h a4 a5 with ⟨-, e⟩ | ⟨-, q, e, hq, -⟩
      · exact ⟨-4, ob, e, h⟩
      · exact ⟨0, q, e, hq⟩
    · exact ⟨-3, ob, by unfold X_resync; rw [if_pos a4, if_neg a5], h⟩
  · exact ⟨-1, ob, by unfold X_resync; rw [if_neg a4], h⟩
/-- what is left of a write, in steps -/
def rem (ob : Rec) : Int := if gI ob 5 = 0 then 0 else 3 - (gI ob 8).toInt
theorem step_p (NF : Nat) (hNF : 60 ≤ NF) {rs : Int32} (hrs : RS rs) {ob : Rec} (h : P rs ob) : ∃ r q, X_step NF ob = some (r, q) ∧ P rs q ∧ (gI ob 4 = 0 → gI q 4 = 0 ∧ (gI ob 5 = 1 → rem q ≤ rem ob - 1)) := by
  have hP := h
  obtain ⟨hm, hd, hp, hb, hs, f0, f1, fk⟩ := h
  by_cases a4 : gI ob 4 = 0
  · rcases hp with a5 | a5
    · exact ⟨-5, ob, by unfold X_step; rw [if_pos a4, if_pos a5], hP, fun _ => ⟨a4, fun e => by rw [a5] at e; exact absurd e (by decide)⟩⟩
    · obtain ⟨c, hc, es, ms, hcv, hc0⟩ := sk NF hNF hm a4 a5
      have kb := hm.kb a5
      have vv := hb a5
      have n5 : ¬ gI ob 5 = 0 := by rw [a5]; decide
      have pcr : gI ob 8 = 0 ∨ gI ob 8 = 1 ∨ gI ob 8 = 2 := by
        rcases hm.2.1 with e | e
        · exact absurd e n5
        · exact e.2.2.2.1
      have ro : rem ob = 3 - (gI ob 8).toInt := if_neg n5
      have cge : (gI ob 8).toInt ≤ c.toInt := by
        rw [hcv]
        rcases pcr with e | e | e
        · rw [if_pos e, e, t0]; split
          · split <;> decide
          · decide
        · rw [if_neg (by rw [e]; decide), if_pos e, e, t1]; split <;> decide
        · rw [if_neg (by rw [e]; decide), if_neg (by rw [e]; decide), e]; decide
      rcases hc with rfl | rfl | rfl
      · obtain ⟨x8, x0⟩ := hc0 rfl
        have e := sp_0 NF hNF N12 a4 a5 kb x8 x0
        refine ⟨1, _, e, ⟨lw0_mi N12 hm a5 x8, hd, Or.inr a5, fun _ => vv, hs, fun x hx => ?_, fun x hx => ?_, fk⟩, fun _ => ⟨a4, fun _ => ?_⟩⟩
        · show V30 (gA (sI (sA ob 0 (gI ob 6) (gI ob 7)) 8 1) 0 x)
          rw [gA_sI, gA_sA]
          split
          · exact vv
          · exact f0 x hx
        · show V30 (gA (sI (sA ob 0 (gI ob 6) (gI ob 7)) 8 1) 0 (32 + x))
          rw [gA_sI, gA_sA]
          split
          · exact vv
          · exact f1 x hx
        · have : rem (sI (sA ob 0 (gI ob 6) (gI ob 7)) 8 1) = 3 - (1 : Int32).toInt := if_neg n5
          rw [this, ro, x8, t0, t1]; omega
      · have e := es.trans (b53_1 NF N12 (ob := sI ob 8 1) kb rfl)
        have mi := lw1_mi N12 ms a5 rfl
        refine ⟨2, _, e, ⟨mi, hd, Or.inr a5, fun _ => vv, hs, fun x hx => ?_, fun x hx => ?_, fk⟩, fun _ => ⟨a4, fun _ => ?_⟩⟩
        · show V30 (gA (sI (sA (sI ob 8 1) 0 (32 + gI (sI ob 8 1) 6) (gI (sI ob 8 1) 7)) 8 2) 0 x)
          rw [gA_sI, gA_sA]
          split
          · exact vv
          · exact f0 x hx
        · show V30 (gA (sI (sA (sI ob 8 1) 0 (32 + gI (sI ob 8 1) 6) (gI (sI ob 8 1) 7)) 8 2) 0 (32 + x))
          rw [gA_sI, gA_sA]
          split
          · exact vv
          · exact f1 x hx
        · have : rem (sI (sA (sI ob 8 1) 0 (32 + gI (sI ob 8 1) 6) (gI (sI ob 8 1) 7)) 8 2) = 3 - (2 : Int32).toInt := if_neg n5
          rw [t1] at cge
          rw [this, ro, t2]; omega
      · obtain ⟨q, eq, mi, ve⟩ := ack_e NF hNF N12 hrs ms a5 rfl
        have e : X_step NF ob = some (3, q) := by rw [es, b53_2 NF rfl, eq, Option.bind_some]
        have q5 : gI q 5 = 0 := (ve.1 5 (by omega)).trans rfl
        have q4 : gI q 4 = gI ob 4 := ve.1 4 (by omega)
        refine ⟨3, q, e, ⟨mi, by rw [q4]; exact hd, Or.inl q5, fun x => by rw [q5] at x; exact absurd x (by decide), ?_, fun x hx => ?_, fun x hx => ?_, fun x hx => ?_⟩, fun _ => ⟨q4.trans a4, fun _ => ?_⟩⟩
        · rw [ve.2 2 0 (by omega), ve.2 2 1 (by omega)]; exact hs
        · show V30 (gA q 0 x)
          rw [ve.2 0 x (by omega)]; exact f0 x hx
        · show V30 (gA q 0 (32 + x))
          rw [ve.2 0 _ (by omega)]; exact f1 x hx
        · show V30 (gA q 1 x)
          rw [ve.2 1 x (by omega)]
          show V30 (gA (sA (sI ob 8 2) 1 (gI (sI ob 8 2) 6) (gI (sI ob 8 2) 7)) 1 x)
          rw [gA_sA]
          split
          · exact vv
          · exact fk x hx
        · have : rem q = 0 := if_pos q5
          rw [this, ro]
          rw [t2] at cge
          rcases pcr with e | e | e <;> rw [e] <;> decide
  · exact ⟨-1, ob, by unfold X_step; rw [if_neg a4], hP, fun x => absurd x a4⟩
/- packing -/
def pkf (g : Int32 → Int32) : Nat → Int64
  | 0 => 0
  | k + 1 => pkf g k ||| ((g (Int32.ofNat k)).toInt64 <<< (((5 : Int32) * Int32.ofNat k) &&& 0x3f).toInt64)
theorem p5 : (2 : Int) ^ 5 = 32 := by decide
theorem VB.v5 {g : Int32 → Int32} (h : VB g) {k : Nat} (hk : k < 12) : V5 (g (Int32.ofNat k)) := by
  have := h (Int32.ofNat k) ⟨by rw [ofN (by omega)]; omega, by rw [ofN (by omega), t12]; omega⟩
  have e := p5
  have u := this.1; have w := this.2
  constructor <;> omega
theorem pkf_f {g : Int32 → Int32} (h : VB g) : ∀ k : Nat, k ≤ 12 → (∀ j : Nat, j < 12 → (j < k → fb (pkf g k) (5 * j) 5 (g (Int32.ofNat j))) ∧ (¬ j < k → fb (pkf g k) (5 * j) 5 0)) ∧ ∀ b, 60 ≤ b → (pkf g k).toBitVec.getLsbD b = false := by
  intro k
  induction k with
  | zero =>
    intro _
    refine ⟨fun j _ => ⟨fun c => absurd c (by omega), fun _ => fb0 _ _⟩, fun b _ => ?_⟩
    show (0#64).getLsbD b = false
    simp
  | succ k ih =>
    intro hk
    obtain ⟨i1, i2⟩ := ih (by omega)
    obtain ⟨o1, o2, o3⟩ := fb_or (pkf g k) (g (Int32.ofNat k)) (((5 : Int32) * Int32.ofNat k) &&& 0x3f).toInt64 (5 * k) 5 (pos5 k (List.mem_range.mpr (by omega))).2 (h.v5 (by omega)) (by omega) (by omega)
    refine ⟨fun j hj => ⟨fun c => ?_, fun c => ?_⟩, fun b hb => ?_⟩
    · by_cases e : j = k
      · rw [e]; exact o1 ((i1 k (by omega)).2 (by omega))
      · exact o2 _ _ ((i1 j hj).1 (by omega)) (by omega)
    · exact o2 _ _ ((i1 j hj).2 (by omega)) (by omega)
    · exact (o3 b (by omega)).trans (i2 b hb)
theorem pkf_c {g g' : Int32 → Int32} (e : ∀ x, Kn 12 x → g x = g' x) : ∀ k : Nat, k ≤ 12 → pkf g k = pkf g' k := by
  intro k
  induction k with
  | zero => intro _; rfl
  | succ k ih =>
    intro hk
    show pkf g k ||| _ = pkf g' k ||| _
    rw [ih (by omega), e (Int32.ofNat k) ⟨by rw [ofN (by omega)]; omega, by rw [ofN (by omega), t12]; omega⟩]
theorem pkf_n {g : Int32 → Int32} (h : VB g) : ¬ pkf g 12 < 0 := by
  obtain ⟨-, hb⟩ := pkf_f h 12 (by omega)
  rw [Int64.lt_iff_toInt_lt]
  have m : (pkf g 12).toBitVec.msb = false := by
    rw [BitVec.msb_eq_getLsbD_last]; exact hb 63 (by omega)
  have : 0 ≤ (pkf g 12).toBitVec.toInt := by
    rw [BitVec.toInt_eq_msb_cond, m]; simp
  have e : (pkf g 12).toInt = (pkf g 12).toBitVec.toInt := rfl
  have z : (0 : Int64).toInt = 0 := rfl
  omega
theorem pkf_g {g : Int32 → Int32} (h : VB g) {x : Int32} (hx : Kn 12 x) : L_get (pkf g 12) x = some (g x) := by
  have u := hx.1; have w := hx.2
  rw [t12] at w
  have f := ((pkf_f h 12 (by omega)).1 x.toInt.toNat (by omega)).1 (by omega)
  have v := h.v5 (k := x.toInt.toNat) (by omega)
  rw [ofI (by omega)] at f v
  unfold L_get
  rw [fb_get (pkf g 12) 31 _ (g x) _ 5 (pos5' hx).1 m31 v (by omega) f]
theorem nxt (i : Nat) (h : i < 900) : Int32.ofNat i + 1 = Int32.ofNat (i + 1) := by
  rw [eq_i32, succ8 (by rw [ofN (by omega)]; omega), ofN (by omega), ofN (by omega)]; omega
theorem pack_l (NF : Nat) (ob : Rec) (i1 : Int32) (g : Int32 → Int32) (hg : VB g) (hv : ∀ x, Kn 12 x → (if i1 < 0 then X_ackedValue ob x else X_peek ob i1 x) = some (g x)) : ∀ (d fuel k : Nat), d < fuel → k + d = 12 → L_pack_l5 NF ob fuel i1 (pkf g k) (Int32.ofNat k) = some (pkf g 12) := by
  have t30 : (30 : Int32).toInt = 30 := rfl
  intro d
  induction d with
  | zero =>
    intro fuel k hf hk
    obtain ⟨u, rfl⟩ : ∃ n, fuel = n + 1 := ⟨fuel - 1, by omega⟩
    have e : k = 12 := by omega
    subst e
    show L_pack_w5 NF ob _ i1 (pkf g 12) (Int32.ofNat 12) = _
    unfold L_pack_w5; rw [if_neg (by decide)]
  | succ d ih =>
    intro fuel k hf hk
    obtain ⟨u, rfl⟩ : ∃ n, fuel = n + 1 := ⟨fuel - 1, by omega⟩
    have o := ofN (k := k) (by omega)
    have kx : Kn 12 (Int32.ofNat k) := ⟨by rw [o]; omega, by rw [o, t12]; omega⟩
    have v := hg _ kx
    have b36 : L_pack_b36 NF ob (L_pack_l5 NF ob u) i1 (pkf g k) (Int32.ofNat k) (g (Int32.ofNat k)) = some (pkf g 12) := by
      unfold L_pack_b36
      have v0 := v.1; have v1 := v.2
      rw [if_neg (by rw [lt_i, t0]; omega), if_neg (by rw [lt_i, t30]; omega), nxt k (by omega)]
      exact ih u (k + 1) (by omega) (by omega)
    have hk' := hv _ kx
    show L_pack_w5 NF ob _ i1 (pkf g k) (Int32.ofNat k) = _
    unfold L_pack_w5
    rw [if_pos (by rw [lt_i, o, t12]; omega)]
    by_cases c : i1 < 0
    · rw [if_pos c] at hk' ⊢
      rw [hk', Option.bind_some]; exact b36
    · rw [if_neg c] at hk' ⊢
      rw [hk', Option.bind_some]; exact b36
theorem pack_e (NF : Nat) (hNF : 60 ≤ NF) {rs : Int32} {ob : Rec} (h : P rs ob) : L_pack NF ob 0 = some (pkf (fun x => gA ob 0 x) 12) ∧ L_pack NF ob 1 = some (pkf (fun x => gA ob 0 (32 + x)) 12) ∧ L_pack NF ob (-1) = some (pkf (fun x => gA ob 1 x) 12) := by
  obtain ⟨hm, hd, hp, hb, hs, f0, f1, fk⟩ := h
  refine ⟨?_, ?_, ?_⟩
  · exact pack_l NF ob 0 (fun x => gA ob 0 x) f0 (fun x hx => by rw [if_neg (by decide), pk_0 hm.1.1 hx]) 12 NF 0 (by omega) (by omega)
  · exact pack_l NF ob 1 (fun x => gA ob 0 (32 + x)) f1 (fun x hx => by rw [if_neg (by decide), pk_1 hm.1.1 hx]) 12 NF 0 (by omega) (by omega)
  · exact pack_l NF ob (-1) (fun x => gA ob 1 x) fk (fun x hx => by rw [if_pos (by decide), ak_e hm.1.1 hx]) 12 NF 0 (by omega) (by omega)
/-- the reads of one round -/
theorem l297 (NF : Nat) (k216 : Rec → Int64 → Int64 → Int64 → Int32 → Int32 → Int32 → Option (Int32 × Rec)) {rs : Int32} {ob : Rec} (h : P rs ob) (a4 : gI ob 4 = 0) (l7 : Int64) (i18 i19 : Int32) : ∀ (m fuel : Nat) (i : Int32), m < fuel → 0 ≤ i.toInt → i.toInt ≤ 12 → 12 - i.toInt ≤ m → L_relation_l297 NF k216 fuel ob l7 (pkf (fun x => gA ob 0 x) 12) (pkf (fun x => gA ob 0 (32 + x)) 12) (gA ob 2 0) i18 i19 i = if i19 = (0 : Int32) then bind2 (X_resync NF ob) fun r68 q69 => if r68 = (-4 : Int32) then k216 q69 l7 (pkf (fun x => gA ob 0 x) 12) (pkf (fun x => gA ob 0 (32 + x)) 12) (gA ob 2 0) i18 (i19 + (1 : Int32)) else some ((0 : Int32), q69) else k216 ob l7 (pkf (fun x => gA ob 0 x) 12) (pkf (fun x => gA ob 0 (32 + x)) 12) (gA ob 2 0) i18 (i19 + (1 : Int32)) := by
  obtain ⟨hm, hd, hp, hb, hs, f0, f1, fk⟩ := h
  intro m
  induction m with
  | zero =>
    intro fuel i hf h0 h1 h2
    obtain ⟨u, rfl⟩ : ∃ n, fuel = n + 1 := ⟨fuel - 1, by omega⟩
    show L_relation_w297 NF k216 _ ob l7 _ _ (gA ob 2 0) i18 i19 i = _
    unfold L_relation_w297; rw [if_neg (by rw [lt_i, t12]; omega)]
  | succ m ih =>
    intro fuel i hf h0 h1 h2
    obtain ⟨u, rfl⟩ : ∃ n, fuel = n + 1 := ⟨fuel - 1, by omega⟩
    show L_relation_w297 NF k216 _ ob l7 _ _ (gA ob 2 0) i18 i19 i = _
    unfold L_relation_w297
    by_cases hc : i.toInt < 12
    · have ei := succ8 (i := i) (by omega)
      have k : Kn 12 i := ⟨h0, by rw [t12]; exact hc⟩
      have e := ih u (i + 1) (by omega) (by omega) (by omega) (by omega)
      rw [if_pos (by rw [lt_i, t12]; omega), pkf_g f0 k, pkf_g f1 k, Option.bind_some, Option.bind_some]
      unfold L_relation_b326
      rw [rd_e hm.1.1 a4 k, Option.bind_some, Option.bind_some, e]
      by_cases s : gA ob 2 0 = 0
      · rw [if_pos s, if_pos s, if_pos rfl]
      · rw [if_neg s, if_neg s, if_pos rfl]
    · rw [if_neg (by rw [lt_i, t12]; omega)]
/-- the two rounds -/
theorem l216 (NF : Nat) (hNF : 60 ≤ NF) {rs : Int32} (hrs : RS rs) {ob : Rec} (h : P rs ob) (a4 : gI ob 4 = 0) (a5 : gI ob 5 = 0) (ns : ¬ (gA ob 2 0 = 1 ∨ gA ob 2 1 = 1)) : L_relation_l216 NF NF ob (pkf (fun x => gA ob 1 x) 12) (pkf (fun x => gA ob 0 x) 12) (pkf (fun x => gA ob 0 (32 + x)) 12) (gA ob 2 0) (gA ob 2 1) 0 = some (1, ob) := by
  obtain ⟨f, rfl⟩ : ∃ f, NF = f + 3 := ⟨NF - 3, by omega⟩
  obtain ⟨p0, p1, pa⟩ := pack_e (f + 3) hNF h
  have rsy : X_resync (f + 3) ob = some (-4, ob) := by
    rcases resync_p (f + 3) hNF hrs h a4 a5 with ⟨-, e⟩ | ⟨c, -⟩
    · exact e
    · exact absurd c ns
  have dn : (gI ob 4 &&& 1) = 0 := by rw [a4]; rfl
  have round : ∀ (n : Nat) (i19 : Int32), i19 < 2 → L_relation_l216 (f + 3) (n + 1) ob (pkf (fun x => gA ob 1 x) 12) (pkf (fun x => gA ob 0 x) 12) (pkf (fun x => gA ob 0 (32 + x)) 12) (gA ob 2 0) (gA ob 2 1) i19 = L_relation_l216 (f + 3) n ob (pkf (fun x => gA ob 1 x) 12) (pkf (fun x => gA ob 0 x) 12) (pkf (fun x => gA ob 0 (32 + x)) 12) (gA ob 2 0) (gA ob 2 1) (i19 + 1) := by
    intro n i19 hi
    show L_relation_w216 (f + 3) (L_relation_l216 (f + 3) n) ob _ _ _ (gA ob 2 0) (gA ob 2 1) i19 = _
    unfold L_relation_w216 X_isDown X_pendingBlock
    rw [if_pos hi, p0, Option.bind_some, if_pos rfl, p1, Option.bind_some, if_pos rfl, pa, Option.bind_some, if_pos rfl, ls_e ob (Or.inl rfl), Option.bind_some, if_pos rfl, ls_e ob (Or.inr rfl), Option.bind_some, if_pos rfl, Option.bind_some, if_pos dn, if_pos a5, Option.bind_some, if_pos rfl]
    rw [l297 (f + 3) (L_relation_l216 (f + 3) n) h a4 (pkf (fun x => gA ob 1 x) 12) (gA ob 2 1) i19 12 (f + 3) 0 (by omega) (by decide) (by decide) (by decide), rsy, bind2_some, if_pos rfl]
    split <;> rfl
  show L_relation_l216 (f + 3) (f + 2 + 1) ob _ _ _ _ _ 0 = _
  rw [round (f + 2) 0 (by decide)]
  show L_relation_l216 (f + 3) (f + 1 + 1) ob _ _ _ _ _ (0 + 1) = _
  rw [round (f + 1) (0 + 1) (by decide)]
  show L_relation_w216 (f + 3) _ ob _ _ _ _ _ (0 + 1 + 1) = _
  unfold L_relation_w216
  rw [if_neg (by decide)]
/-- at rest: resync and the two rounds -/
theorem rest_e (NF : Nat) (hNF : 60 ≤ NF) {rs : Int32} (hrs : RS rs) {ob : Rec} (h : P rs ob) (a4 : gI ob 4 = 0) (a5 : gI ob 5 = 0) (t : Int32) (ht : (t = 1 ∧ (gA ob 2 0 = 1 ∨ gA ob 2 1 = 1)) ∨ (t = 0 ∧ ¬ (gA ob 2 0 = 1 ∨ gA ob 2 1 = 1))) : ∃ q, L_relation_b124 NF ob (gA ob 2 0) (gA ob 2 1) (pkf (fun x => gA ob 0 x) 12) (pkf (fun x => gA ob 0 (32 + x)) 12) (pkf (fun x => gA ob 1 x) 12) t = some (1, q) ∧ P rs q := by
  have b124 : L_relation_b124 NF ob (gA ob 2 0) (gA ob 2 1) (pkf (fun x => gA ob 0 x) 12) (pkf (fun x => gA ob 0 (32 + x)) 12) (pkf (fun x => gA ob 1 x) 12) t = L_relation_b136 NF ob (gA ob 2 0) (gA ob 2 1) (pkf (fun x => gA ob 0 x) 12) (pkf (fun x => gA ob 0 (32 + x)) 12) (pkf (fun x => gA ob 1 x) 12) t (if gA ob 2 0 = 0 then pkf (fun x => gA ob 0 x) 12 else pkf (fun x => gA ob 0 (32 + x)) 12) := by
    unfold L_relation_b124
    split <;> rfl
  rw [b124]
  unfold L_relation_b136 L_relation_b157 L_relation_b173 L_relation_b187 L_relation_b199
  rcases resync_p NF hNF hrs h a4 a5 with ⟨ns, e⟩ | ⟨c, q, e, hq, q1, s0, s1, qk, qv⟩
  · rcases ht with ⟨-, x⟩ | ⟨rfl, -⟩
    · exact absurd x ns
    · rw [e, bind2_some, if_pos rfl, if_pos rfl, if_pos rfl, if_pos rfl, if_pos rfl, if_pos rfl]
      exact ⟨ob, l216 NF hNF hrs h a4 a5 ns, h⟩
  · rcases ht with ⟨rfl, -⟩ | ⟨-, x⟩
    · have n10 : ¬ (1 : Int32) = 0 := by decide
      rw [e, bind2_some, if_neg n10, if_pos rfl, if_neg n10, if_neg n10, if_neg n10, if_neg n10]
      have l := l216 NF hNF hrs hq ((q1 4).trans a4) ((q1 5).trans a5) (by rw [s0, s1]; decide)
      have g0 : pkf (fun x => gA q 0 x) 12 = (if gA ob 2 0 = 0 then pkf (fun x => gA ob 0 x) 12 else pkf (fun x => gA ob 0 (32 + x)) 12) := by
        split
        · rename_i c0; exact pkf_c (fun x hx => by have := (qv x hx).1; rw [if_pos c0] at this; exact this) 12 (by omega)
        · rename_i c0; exact pkf_c (fun x hx => by have := (qv x hx).1; rw [if_neg c0] at this; exact this) 12 (by omega)
      have g1 : pkf (fun x => gA q 0 (32 + x)) 12 = (if gA ob 2 0 = 0 then pkf (fun x => gA ob 0 x) 12 else pkf (fun x => gA ob 0 (32 + x)) 12) := by
        split
        · rename_i c0; exact pkf_c (fun x hx => by have := (qv x hx).2; rw [if_pos c0] at this; exact this) 12 (by omega)
        · rename_i c0; exact pkf_c (fun x hx => by have := (qv x hx).2; rw [if_neg c0] at this; exact this) 12 (by omega)
      have gk : pkf (fun x => gA q 1 x) 12 = pkf (fun x => gA ob 1 x) 12 := pkf_c (fun x _ => qk x) 12 (by omega)
      rw [g0, g1, gk, s0, s1] at l
      exact ⟨q, l, hq⟩
    · exact absurd c x
/-- the settling steps, then the rest -/
theorem l14 (NF : Nat) (hNF : 60 ≤ NF) {rs : Int32} (hrs : RS rs) : ∀ (d fuel : Nat) (ob : Rec) (i : Int32), d < fuel → P rs ob → gI ob 4 = 0 → i.toInt + d = 3 → 0 ≤ i.toInt → rem ob ≤ d → ∃ q, L_relation_l14 NF fuel ob i = some (1, q) ∧ P rs q := by
  intro d
  induction d with
  | zero =>
    intro fuel ob i hf h a4 hi h0 hr
    obtain ⟨u, rfl⟩ : ∃ n, fuel = n + 1 := ⟨fuel - 1, by omega⟩
    have hP := h
    obtain ⟨hm, hd, hp, hb, hs, f0, f1, fk⟩ := h
    have a5 : gI ob 5 = 0 := by
      rcases hp with e | e
      · exact e
      · have n5 : ¬ gI ob 5 = 0 := by rw [e]; decide
        have : rem ob = 3 - (gI ob 8).toInt := if_neg n5
        rcases hm.2.1 with x | x
        · exact x
        · rcases x.2.2.2.1 with y | y | y
          · rw [this, y, t0] at hr; omega
          · rw [this, y, t1] at hr; omega
          · rw [this, y, t2] at hr; omega
    obtain ⟨p0, p1, pa⟩ := pack_e NF hNF hP
    have dn : (gI ob 4 &&& 1) = 0 := by rw [a4]; rfl
    show ∃ q, L_relation_w14 NF _ ob i = some (1, q) ∧ P rs q
    unfold L_relation_w14 X_pendingBlock X_isDown
    rw [if_neg (by rw [lt_i, t3]; omega), if_pos a5, Option.bind_some, if_pos rfl, Option.bind_some, if_pos dn, ls_e ob (Or.inl rfl), Option.bind_some, ls_e ob (Or.inr rfl), Option.bind_some, p0, Option.bind_some, p1, Option.bind_some, pa, Option.bind_some, if_neg (pkf_n f0), if_neg (pkf_n f1), if_neg (pkf_n fk)]
    by_cases c0 : gA ob 2 0 = 1
    · rw [if_pos c0]
      exact rest_e NF hNF hrs hP a4 a5 1 (Or.inl ⟨rfl, Or.inl c0⟩)
    · rw [if_neg c0]
      by_cases c1 : gA ob 2 1 = 1
      · rw [if_pos c1]
        exact rest_e NF hNF hrs hP a4 a5 1 (Or.inl ⟨rfl, Or.inr c1⟩)
      · rw [if_neg c1]
        exact rest_e NF hNF hrs hP a4 a5 0 (Or.inr ⟨rfl, fun x => x.elim c0 c1⟩)
  | succ d ih =>
    intro fuel ob i hf h a4 hi h0 hr
    obtain ⟨u, rfl⟩ : ∃ n, fuel = n + 1 := ⟨fuel - 1, by omega⟩
    have ei := succ8 (i := i) (by omega)
    show ∃ q, L_relation_w14 NF (L_relation_l14 NF u) ob i = some (1, q) ∧ P rs q
    unfold L_relation_w14 X_pendingBlock
    rw [if_pos (by rw [lt_i, t3]; omega)]
    by_cases a5 : gI ob 5 = 0
    · have r0 : rem ob = 0 := if_pos a5
      rw [if_pos a5, Option.bind_some, if_pos rfl]
      exact ih u ob (i + 1) (by omega) h a4 (by omega) (by omega) (by omega)
    · have a5' : gI ob 5 = 1 := h.2.2.1.resolve_left a5
      have kb := h.1.kb a5'
      have nb : ¬ gI ob 6 = -1 := fun e => by
        have := kb.1
        rw [e] at this; exact absurd this (by decide)
      obtain ⟨r, q, e, hq, hh⟩ := step_p NF hNF hrs h
      obtain ⟨q4, qr⟩ := hh a4
      have := qr a5'
      rw [if_neg a5, Option.bind_some, if_neg nb, e, bind2_some]
      exact ih u q (i + 1) (by omega) hq q4 (by omega) (by omega) (by omega)
theorem rem3 {rs : Int32} {ob : Rec} (h : P rs ob) : rem ob ≤ 3 := by
  unfold rem
  split
  · decide
  · rename_i n5
    rcases h.1.2.1 with x | x
    · exact absurd x n5
    · rcases x.2.2.2.1 with y | y | y <;> rw [y] <;> decide
theorem rel_p (NF : Nat) (hNF : 60 ≤ NF) {rs : Int32} (hrs : RS rs) {ob : Rec} (h : P rs ob) : ∃ q, L_relation NF ob = some (1, q) ∧ P rs q := by
  unfold L_relation X_isDown
  rw [Option.bind_some]
  rcases h.2.1 with a4 | a4
  · rw [a4, if_pos (by decide)]
    exact l14 NF hNF hrs 3 NF ob 0 (by omega) h a4 (by decide) (by decide) (rem3 h)
  · obtain ⟨r, q, e, hq, q4⟩ := restart_p h
    rw [a4, if_neg (by decide), e, bind2_some]
    exact l14 NF hNF hrs 3 NF q 0 (by omega) hq q4 (by decide) (by decide) (rem3 hq)
theorem law_l (NF : Nat) (hNF : 60 ≤ NF) (rs : Int32) (hrs : RS rs) (z : Int32) (f : Int32 → Int32) (hz : ¬ z < 0 ∧ z ≤ 260) : ∀ (m fuel : Nat) (ob : Rec) (i : Int32), m < fuel → P rs ob → 0 ≤ i.toInt → i.toInt ≤ 300 → 300 - i.toInt ≤ m → L_law_l38 NF z f fuel ob z i = some 1 := by
  have hz' : z.toInt ≤ 260 := le_i.mp hz.2
  have fin : ∀ ob, P rs ob → (bind2 (L_relation NF ob) fun r10 q11 => some (r10 &&& 1)) = some 1 := by
    intro ob h
    obtain ⟨q, e, -⟩ := rel_p NF hNF hrs h
    rw [e, bind2_some]; rfl
  intro m
  induction m with
  | zero =>
    intro fuel ob i hf h h0 h1 h2
    obtain ⟨u, rfl⟩ : ∃ n, fuel = n + 1 := ⟨fuel - 1, by omega⟩
    show L_law_w38 NF z f _ ob z i = _
    have e2 : (i + 2).toInt = i.toInt + 2 := by rw [ad (by rw [t2]; omega), t2]
    unfold L_law_w38
    rw [if_neg (by rw [lt_i]; omega)]; exact fin ob h
  | succ m ih =>
    intro fuel ob i hf h h0 h1 h2
    obtain ⟨u, rfl⟩ : ∃ n, fuel = n + 1 := ⟨fuel - 1, by omega⟩
    show L_law_w38 NF z f (L_law_l38 NF z f u) ob z i = _
    have e1 : (i + 1).toInt = i.toInt + 1 := by rw [ad (by rw [t1]; omega), t1]
    have e2 : (i + 2).toInt = i.toInt + 2 := by rw [ad (by rw [t2]; omega), t2]
    have e3 : (i + 3).toInt = i.toInt + 3 := by rw [ad (by rw [t3]; omega), t3]
    unfold L_law_w38
    by_cases c : i + 2 < z
    · have c' := lt_i.mp c
      rw [e2] at c'
      have go : ∀ q, P rs q → L_law_l38 NF z f u q z (i + 3) = some 1 := fun q hq => ih u q (i + 3) (by omega) hq (by omega) (by omega) (by omega)
      have b31 := and_r (f (i + 2)) 31 31 rfl (by omega)
      have bv : ((f (i + 2) &&& 31) - 1).toInt = (f (i + 2) &&& 31).toInt - 1 := by rw [sb (by rw [t1]; omega), t1]
      have b86 : ∀ o leg : Int32, L_law_b86 NF z f (L_law_l38 NF z f u) ob z i o (f (i + 1)) (f (i + 2)) leg = some 1 := by
        intro o leg
        unfold L_law_b86
        by_cases o0 : o = 0
        · obtain ⟨r, q, e, hq⟩ := write_p hrs h (f (i + 1) &&& 15) ((f (i + 2) &&& 31) - 1) (by omega)
          rw [if_pos o0, e, bind2_some]; exact go q hq
        · rw [if_neg o0]
          by_cases o1 : o = 1
          · obtain ⟨r, q, e, hq⟩ := crash_p h
            rw [if_pos o1, e, bind2_some]; exact go q hq
          · rw [if_neg o1]
            by_cases o2 : o = 2
            · obtain ⟨r, q, e, hq, -⟩ := restart_p h
              rw [if_pos o2, e, bind2_some]; exact go q hq
            · rw [if_neg o2]
              by_cases o3 : o = 3
              · obtain ⟨r, q, e, hq⟩ := fail_p h leg
                rw [if_pos o3, e, bind2_some]; exact go q hq
              · rw [if_neg o3]
                by_cases o4 : o = 4
                · obtain ⟨r, q, e, hq⟩ := reat_p h leg
                  rw [if_pos o4, e, bind2_some]; exact go q hq
                · rw [if_neg o4]
                  by_cases o5 : o = 5
                  · obtain ⟨r, q, e, hq⟩ := repl_p NF hNF hrs h leg
                    rw [if_pos o5, e, bind2_some]; exact go q hq
                  · rw [if_neg o5]
                    by_cases o6 : o = 6
                    · obtain ⟨r, q, e, hq⟩ := resync_q NF hNF hrs h
                      rw [if_pos o6, e, bind2_some]; exact go q hq
                    · rw [if_neg o6]
                      by_cases o15 : o = 15
                      · obtain ⟨q, e, hq⟩ := rel_p NF hNF hrs h
                        rw [if_pos o15, e, bind2_some, if_neg (by decide)]; exact go q hq
                      · obtain ⟨r, q, e, hq, -⟩ := step_p NF hNF hrs h
                        rw [if_neg o15, e, bind2_some]; exact go q hq
      rw [if_pos c, chk_ok (by omega), chk_ok (by omega), chk_ok (by omega)]
      by_cases d : f (i + 1) &&& 7 < 3
      · rw [if_pos d]; exact b86 _ _
      · rw [if_neg d]; exact b86 _ _
    · rw [if_neg c]; exact fin ob h
theorem ini (a b : Int32) : ∃ rs q, RS rs ∧ X_init 12 a b = some q ∧ P rs q := by
  obtain ⟨rs, e1, hrs⟩ := cl14 a
  obtain ⟨cd, e2⟩ := clx b 0 4
  have T := tabM 12 N12 rs hrs 0 (by decide)
  have h12 : X_clamp 12 8 32 = some 12 := by unfold X_clamp; rw [if_neg (by decide), if_neg (by decide)]
  have z : ∀ k i, gA (sI (sI (sI (sI (sI (sA (sA (sI (sI (sI (sI zrec 0 12) 1 rs) 2 cd) 3 (((12 + rs) - 1) / rs)) 2 0 0) 2 1 0) 4 0) 5 0) 6 (-1)) 7 0) 8 (-1)) k i = 0 := fun k i => by simp [gA_sI, gA_sA, gA_z]
  have v : ∀ k i, V30 (gA (sI (sI (sI (sI (sI (sA (sA (sI (sI (sI (sI zrec 0 12) 1 rs) 2 cd) 3 (((12 + rs) - 1) / rs)) 2 0 0) 2 1 0) 4 0) 5 0) 6 (-1)) 7 0) 8 (-1)) k i) := fun k i => by rw [z]; exact z30
  refine ⟨rs, sI (sI (sI (sI (sI (sA (sA (sI (sI (sI (sI zrec 0 12) 1 rs) 2 cd) 3 (((12 + rs) - 1) / rs)) 2 0 0) 2 1 0) 4 0) 5 0) 6 (-1)) 7 0) 8 (-1), hrs, ?_, ⟨⟨rfl, rfl, rfl⟩, Or.inl rfl, fun x _ e => absurd ((z 0 x).trans (z 0 (32 + x)).symm) e, fun _ _ _ => ⟨fun x _ e => absurd ((z 0 x).trans (z 0 (32 + x)).symm) e, fun e => absurd e (by show ¬ (0 : Int32) = 1; decide)⟩⟩, Or.inl rfl, Or.inl rfl, fun e => absurd e (by show ¬ (0 : Int32) = 1; decide), ⟨Or.inl (z 2 0), Or.inl (z 2 1), Or.inl (z 2 0)⟩, fun x _ => v 0 x, fun x _ => v 0 _, fun x _ => v 1 x⟩
  unfold X_init dvz
  rw [h12, Option.bind_some, e1, Option.bind_some, e2, Option.bind_some, if_neg T.2.2.2.2.2.2.2.1, chk_ok (by decide), chk_ok (by decide)]
theorem owed : ∀ (z : Int32) (f : Int32 → Int32), ¬ z < 0 → z ≤ 260 → ∃ NF, L_law NF z f = some 1 := by
  intro z f h0 h1
  refine ⟨500, ?_⟩
  have b32 : ∀ a b : Int32, L_law_b32 500 z f z 12 a b = some 1 := by
    intro a b
    obtain ⟨rs, q, hrs, e, hJ⟩ := ini a b
    unfold L_law_b32
    rw [e, Option.bind_some]
    exact law_l 500 (by omega) rs hrs z f ⟨h0, h1⟩ 300 500 q 2 (by omega) hJ (by decide) (by decide) (by decide)
  have b20 : ∀ a : Int32, L_law_b20 500 z f z 12 a = some 1 := by
    intro a
    unfold L_law_b20
    by_cases c : 1 < z
    · rw [if_pos c, chk_ok ⟨by decide, lt_i.mp c⟩]; exact b32 _ _
    · rw [if_neg c]; exact b32 _ _
  unfold L_law
  by_cases c : 0 < z
  · rw [if_pos c, chk_ok ⟨by decide, lt_i.mp c⟩]; exact b20 _
  · rw [if_neg c]; exact b20 _
-- owed : ∀ (z : Int32) (f : Int32 → Int32), ¬ z < 0 → z ≤ 260 → ∃ NF, L_law NF z f = some 1
--COMES--
set_option maxRecDepth 65536 in
set_option maxHeartbeats 4000000 in
theorem comes_1 {Post : Tables → Env → Array Value → State → Outcome → State → Prop} (hpost : ∀ tb e args s v u, (limb_1_1.after args s (.returned v) u = true ∧ limb_1_2.after args s (.returned v) u = true ∧ True) → FrameEnd s (.returned v) u (Jvm.fieldLocs frame_1_writes args s ++ Jvm.arrayLocs frame_1_arrays args s ++ Jvm.staticLocs frame_1_statics s) 24 512 → Post tb e args s (.returned v) u) :
    ArmFor flags0 classFile x code maxLocals ret World_1 tables_1 room_1 Calls_1 rest_1 Pre_1 Post := by
  intro l hfl _ _ p e ha hc hk s m args below hf hA hF happ hP
  obtain ⟨hcalls, hrest, hpre⟩ := hP
  obtain ⟨-, -, -, hnamed, -, -, -, hat⟩ := (Spec.applies_iff hf).mp happ
  obtain ⟨hg, hn⟩ := and_e (Cond.before_iff.mp (show (Jvm.Cond.and given_1 narrow_1).before args s = true from hpre))
  obtain ⟨hcnt, hg⟩ := and_e hg
  obtain ⟨w0, rfl⟩ : ∃ w0 : Value, args = #[w0] := by
    have hs : args.size = 1 := by simpa [Cond.value, given_1] using hcnt
    obtain ⟨L⟩ := args
    match L, hs with
    | [w0], _ => exact ⟨w0, rfl⟩
  have hw := fun d (hd : d ∈ tables_1) => atoms_spec (ws := Jvm.Cond.code x code maxLocals ret :: tables_1) hat d (List.mem_cons_of_mem _ hd)
  have hfit : Fit s := fun {y c} hc i hi => by
    obtain ⟨ha, rfl⟩ := Array.getElem?_eq_some_iff.mp hc
    have q := List.all_eq_true.mp ((Array.all_eq_true_iff_forall_mem.mp hF) _ (Array.getElem_mem ha)) i (List.mem_range.mpr hi)
    simpa [Array.getElem?_eq_getElem hi] using q
  obtain ⟨n1, n2⟩ := and_e hn
  obtain ⟨sa, ev⟩ := arr_v n1
  obtain rfl : w0 = .ref sa := Option.some.inj ev
  obtain ⟨cl, A⟩ := Arr.start ev n1
  have hsz : cl.slots.size < 2 ^ 31 := by
    rcases Nat.lt_or_ge cl.slots.size (2 ^ 31) with q | q
    · exact q
    · have u : (Term.length (.arg 0)).eval #[.ref sa] s none [] s = none := by
        have v : s.arrayAt? sa = some cl := A.fin (Vm.Alike.refl _)
        have e' : ¬ cl.slots.size < 2 ^ 31 := by omega
        simp only [Term.eval] at ev ⊢
        simp [v, e']
      simp [Cond.value, u] at n2
  obtain ⟨z, hz, F⟩ := Scr.start hfit A hsz
  have hle : z ≤ 260 := by
    have u := len_f (t := .arg 0) (args := #[.ref sa]) (first := s) (o := none) (idx := []) ev (A.fin (Vm.Alike.refl _)) hsz
    rw [hz]; first | (simp only [Cond.value, u] at n2; simpa [Term.eval] using n2) | (simp [Cond.value, u, Term.int_eval] at n2; exact n2) | (simp [Cond.value, u, Term.int_eval] at n2; simpa using n2)
  obtain ⟨NF, hlaw⟩ := owed z (atv cl) F.2.2.1 hle
  have hp := L_law_pay (C := (l, s, s.heap.size, #[.ref sa])) (⟨cl, F, rfl⟩ : ScrF (l, s, s.heap.size, #[.ref sa]) sa z (atv cl)) hlaw hw s.heap (Rep.start s) tables_1
  obtain ⟨n, o, h1, h2, h3, v, L, rfl, ⟨N, G', -, rfl⟩, hq⟩ := hp p e ha hc hk s m _ below hf ((Spec.applies_iff_loose hf).mp happ).1 ⟨rfl, State.Warmed39.refl s, rfl⟩ trivial
  refine ⟨n, _, h1, h2, h3, hpost _ _ _ _ _ _ ⟨Cond.after_iff.mpr rfl, Cond.after_iff.mpr (eq_i res_at (Term.int_eval (1)) rfl), trivial⟩ ⟨hq.1, hq.2.1, (hq.2.2.sift fun y hy => Or.inr (N y hy)).mono (by decide) (by decide)⟩⟩
theorem main_1_1 : Claimed_1_1 := comes_1 fun _ _ _ _ _ _ h hF => ⟨h.1, hF⟩
theorem main_1_2 : Claimed_1_2 := comes_1 fun _ _ _ _ _ _ h hF => ⟨h.2.1, hF⟩
end Jvm.Pilot.@@N@@
namespace Jvm.Pilot.@@N@@
open Jvm Jvm.ClassFile Sem Op Lib Jvm.Free Jvm.Stand Jvm.Pilot.@@N@@.Jvm.D
/-! MADE BY PROGRAM (witnessworld.py) out of the Statement's table words and the real class files: 11 classes; the members and pool entries that the words name. The judged class is class 1, her method 4. -/
namespace start1
open Jvm.ClassFile
def u (s : String) : CpInfo := .utf8 (stringToUtf16 s)
/-- a pool by its gaps: so many unusable entries, then the entry; so many at the end -/
def gap : Nat → List CpInfo → List CpInfo
  | 0, r => r
  | n + 1, r => .unusable :: gap n r
def poolList (es : List (Nat × CpInfo)) (last : Nat) : List CpInfo := es.foldr (fun e r => gap e.1 (e.2 :: r)) (gap last [])
def pool (es : List (Nat × CpInfo)) (last : Nat) : Array CpInfo := ⟨poolList es last⟩
def fileOf (pool : Array CpInfo) (this : Nat) (attrs : Array Attribute := #[]) (ms : Array MethodInfo := #[]) (fl : Nat := 33) (sup : Nat := 0) (ifs : Array Nat := #[]) (fds : Array FieldInfo := #[]) : ClassFile where
  minorVersion := 0
  majorVersion := 65
  constantPool := pool
  accessFlags := fl
  thisClass := this
  superClass := sup
  interfaces := ifs
  fields := fds
  methods := ms
  attributes := attrs
def plain (name : String) (sup : Option ClassId) : Class where
  name := name
  kind := .ordinary
  loader := none
  accessFlags := 33
  super := sup
  interfaces := #[]
  cf := none
  fields := #[]
  methods := #[]
  instanceTypes := #[]
  staticTypes := #[]
  resolved := #[]
  callSites := []
  init := .initialized
  statics := none
  mirror := none

def pool0 : Array CpInfo := pool [(5, u "<init>"), (0, u "()V"), (1, .class_ 10), (1, u "java/lang/Object")] 113

def k0c0 : Code := { maxStack := 0, maxLocals := 1, code := object_method_1_code, exceptionTable := #[], attributes := #[] }
def k0m0 : Method := { name := "<init>", desc := "()V", sig := { parameters := [], returnType := none }, accessFlags := 1, code := some k0c0 }
/-- java/lang/Object -/
def k0 : Class := { plain "java/lang/Object" none with
  accessFlags := 33
  interfaces := #[]
  cf := some (fileOf pool0 8 #[] #[{ accessFlags := 1, nameIndex := 5, descriptorIndex := 6, attributes := #[] }] 33 0 #[] #[])
  fields := #[]
  methods := #[k0m0]
  instanceTypes := #[]
  staticTypes := #[]
  resolved := Array.replicate 124 none
  statics := none }

def pool1 : Array CpInfo := pool [(2, .class_ 4), (1, u "java/lang/Object"), (0, u "<init>"), (0, u "()V"), (0, .long 31), (1, .methodref 10 11), (0, .class_ 12), (0, .nameAndType 13 14), (0, u "MirrorResync"), (0, u "ackedValue"), (0, u "(I)I"), (0, .methodref 10 16), (0, .nameAndType 17 18), (0, u "peek"), (0, u "(II)I"), (0, .long 18446744073709551615), (1, .methodref 10 22), (0, .nameAndType 23 24), (0, u "isDown"), (0, u "()Z"), (0, .methodref 10 26), (0, .nameAndType 27 28), (0, u "restart"), (0, u "()I"), (0, .methodref 10 30), (0, .nameAndType 31 28), (0, u "pendingBlock"), (0, .methodref 10 33), (0, .nameAndType 34 28), (0, u "step"), (0, .methodref 10 36), (0, .nameAndType 37 14), (0, u "legState"), (0, .methodref 39 40), (0, .class_ 41), (0, .nameAndType 42 43), (0, u "MirrorResyncL7"), (0, u "pack"), (0, u "(LMirrorResync;I)J"), (0, .methodref 10 45), (0, .nameAndType 46 28), (0, u "resync"), (0, .methodref 39 48), (0, .nameAndType 49 50), (0, u "get"), (0, u "(JI)I"), (0, .methodref 10 52), (0, .nameAndType 53 14), (0, u "read"), (0, .methodref 10 55), (0, .nameAndType 5 56), (0, u "(III)V"), (0, .methodref 10 58), (0, .nameAndType 59 18), (0, u "write"), (0, .methodref 10 61), (0, .nameAndType 62 28), (0, u "crash"), (0, .methodref 10 64), (0, .nameAndType 65 14), (0, u "failLeg"), (0, .methodref 10 67), (0, .nameAndType 68 14), (0, u "reattachLeg"), (0, .methodref 10 70), (0, .nameAndType 71 14), (0, u "replaceLeg"), (0, .methodref 39 73), (0, .nameAndType 74 75), (0, u "relation"), (0, u "(LMirrorResync;)Z"), (3, u "law"), (0, u "([I)Z")] 4

def k1m0 : Method := { name := "<init>", desc := "()V", sig := { parameters := [], returnType := none }, accessFlags := 1, code := none }
def k1c1 : Code := { maxStack := 4, maxLocals := 3, code := method_2_code, exceptionTable := #[], attributes := #[] }
def k1m1 : Method := { name := "get", desc := "(JI)I", sig := { parameters := [.long, .int], returnType := some .int }, accessFlags := 8, code := some k1c1 }
def k1c2 : Code := { maxStack := 6, maxLocals := 6, code := method_3_code, exceptionTable := #[], attributes := #[] }
def k1m2 : Method := { name := "pack", desc := "(LMirrorResync;I)J", sig := { parameters := [(.object "MirrorResync"), .int], returnType := some .long }, accessFlags := 8, code := some k1c2 }
def k1c3 : Code := { maxStack := 4, maxLocals := 22, code := method_4_code, exceptionTable := #[], attributes := #[] }
def k1m3 : Method := { name := "relation", desc := "(LMirrorResync;)Z", sig := { parameters := [(.object "MirrorResync")], returnType := some .boolean }, accessFlags := 8, code := some k1c3 }
def k1c4 : Code := { maxStack := 6, maxLocals := 8, code := code, exceptionTable := #[], attributes := #[] }
def k1m4 : Method := { name := "law", desc := "([I)Z", sig := { parameters := [(.array .int)], returnType := some .boolean }, accessFlags := 9, code := some k1c4 }
/-- MirrorResyncL7 -/
def k1 : Class := { plain "MirrorResyncL7" (some 0) with
  accessFlags := 33
  interfaces := #[]
  cf := some (fileOf pool1 39 #[] #[{ accessFlags := 1, nameIndex := 5, descriptorIndex := 6, attributes := #[] }, { accessFlags := 8, nameIndex := 49, descriptorIndex := 50, attributes := #[] }, { accessFlags := 8, nameIndex := 42, descriptorIndex := 43, attributes := #[] }, { accessFlags := 8, nameIndex := 74, descriptorIndex := 75, attributes := #[] }, { accessFlags := 9, nameIndex := 79, descriptorIndex := 80, attributes := #[] }] 33 2 #[] #[])
  fields := #[]
  methods := #[k1m0, k1m1, k1m2, k1m3, k1m4]
  instanceTypes := #[]
  staticTypes := #[]
  resolved := Array.replicate 85 none
  statics := none }

def pool2 : Array CpInfo := pool [(1, .methodref 2 3), (0, .class_ 4), (0, .nameAndType 5 6), (0, u "java/lang/Object"), (0, u "<init>"), (0, u "()V"), (0, .fieldref 8 9), (0, .class_ 10), (0, .nameAndType 11 12), (0, u "MirrorResync"), (0, u "data"), (0, u "[I"), (0, .fieldref 8 14), (0, .nameAndType 15 12), (0, u "acked"), (0, .fieldref 8 17), (0, .nameAndType 18 12), (0, u "state"), (0, .fieldref 8 20), (0, .nameAndType 21 22), (0, u "dirty"), (0, u "[Z"), (0, .fieldref 8 24), (0, .nameAndType 25 22), (0, u "pending"), (0, .fieldref 8 27), (0, .nameAndType 28 12), (0, u "age"), (0, .methodref 8 30), (0, .nameAndType 31 32), (0, u "clamp"), (0, u "(III)I"), (0, .fieldref 8 34), (0, .nameAndType 35 36), (0, u "n"), (0, u "I"), (0, .fieldref 8 38), (0, .nameAndType 39 36), (0, u "regionSize"), (0, .fieldref 8 41), (0, .nameAndType 42 36), (0, u "clearDelay"), (0, .fieldref 8 44), (0, .nameAndType 45 36), (0, u "regions"), (0, .fieldref 8 47), (0, .nameAndType 48 49), (0, u "down"), (0, u "Z"), (0, .fieldref 8 51), (0, .nameAndType 52 49), (0, u "busy"), (0, .fieldref 8 54), (0, .nameAndType 55 36), (0, u "pBlock"), (0, .fieldref 8 57), (0, .nameAndType 58 36), (0, u "pValue"), (0, .fieldref 8 60), (0, .nameAndType 61 36), (0, u "pCursor"), (0, .methodref 8 63), (0, .nameAndType 64 65), (0, u "validBlock"), (0, u "(I)Z"), (0, .integer 65535), (0, .methodref 8 68), (0, .nameAndType 69 70), (0, u "markDirty"), (0, u "(I)V"), (0, .methodref 8 72), (0, .nameAndType 73 6), (0, u "acknowledge"), (0, .methodref 8 75), (0, .nameAndType 76 6), (0, u "clearPending"), (0, .methodref 8 78), (0, .nameAndType 79 65), (0, u "validLeg"), (0, .methodref 8 81), (0, .nameAndType 82 83), (0, u "checkDetached"), (0, u "(I)I"), (0, .methodref 8 85), (0, .nameAndType 86 70), (0, u "zeroLeg"), (0, .methodref 8 88), (0, .nameAndType 89 6), (0, u "markAllDirty"), (0, .methodref 8 91), (0, .nameAndType 92 93), (0, u "staleLeg"), (0, u "()I"), (0, .methodref 8 95), (0, .nameAndType 96 97), (0, u "copyDirtyRegions"), (0, u "(II)V"), (0, .methodref 8 99), (0, .nameAndType 100 6), (0, u "clearBitmap"), (0, .methodref 8 102), (0, .nameAndType 103 70), (0, u "ageOthers"), (0, .methodref 8 105), (0, .nameAndType 106 107), (0, u "bothActive"), (0, u "()Z"), (0, .methodref 8 109), (0, .nameAndType 110 6), (0, u "clearAged"), (0, u "OK"), (2, u "ERR_DOWN"), (1, u "ERR_ARG"), (1, u "ERR_BUSY"), (1, u "ERR_STATE"), (1, u "ERR_IDLE"), (1, u "STEP_LEG0"), (1, u "STEP_LEG1"), (1, u "STEP_ACKED"), (1, u "ACTIVE"), (0, u "STALE"), (0, u "FAILED"), (0, u "NONE"), (0, u "MAX_VALUE"), (0, u "STRIDE"), (1, u "(III)V"), (2, u "write"), (0, u "(II)I"), (1, u "step"), (0, u "crash"), (0, u "restart"), (0, u "failLeg"), (0, u "reattachLeg"), (0, u "replaceLeg"), (0, u "resync"), (0, u "read"), (0, u "peek"), (0, u "legState"), (0, u "pendingBlock"), (1, u "isDown"), (0, u "ackedValue")] 2

def k2c0 : Code := { maxStack := 4, maxLocals := 4, code := prog_1_method_1_code, exceptionTable := #[], attributes := #[] }
def k2m0 : Method := { name := "<init>", desc := "(III)V", sig := { parameters := [.int, .int, .int], returnType := none }, accessFlags := 1, code := some k2c0 }
def k2c1 : Code := { maxStack := 3, maxLocals := 3, code := prog_1_method_2_code, exceptionTable := #[], attributes := #[] }
def k2m1 : Method := { name := "write", desc := "(II)I", sig := { parameters := [.int, .int], returnType := some .int }, accessFlags := 1, code := some k2c1 }
def k2c2 : Code := { maxStack := 3, maxLocals := 2, code := prog_1_method_3_code, exceptionTable := #[], attributes := #[] }
def k2m2 : Method := { name := "step", desc := "()I", sig := { parameters := [], returnType := some .int }, accessFlags := 1, code := some k2c2 }
def k2c3 : Code := { maxStack := 2, maxLocals := 1, code := prog_1_method_4_code, exceptionTable := #[], attributes := #[] }
def k2m3 : Method := { name := "crash", desc := "()I", sig := { parameters := [], returnType := some .int }, accessFlags := 1, code := some k2c3 }
def k2c4 : Code := { maxStack := 3, maxLocals := 1, code := prog_1_method_5_code, exceptionTable := #[], attributes := #[] }
def k2m4 : Method := { name := "restart", desc := "()I", sig := { parameters := [], returnType := some .int }, accessFlags := 1, code := some k2c4 }
def k2c5 : Code := { maxStack := 3, maxLocals := 2, code := prog_1_method_6_code, exceptionTable := #[], attributes := #[] }
def k2m5 : Method := { name := "failLeg", desc := "(I)I", sig := { parameters := [.int], returnType := some .int }, accessFlags := 1, code := some k2c5 }
def k2c6 : Code := { maxStack := 3, maxLocals := 3, code := prog_1_method_7_code, exceptionTable := #[], attributes := #[] }
def k2m6 : Method := { name := "reattachLeg", desc := "(I)I", sig := { parameters := [.int], returnType := some .int }, accessFlags := 1, code := some k2c6 }
def k2c7 : Code := { maxStack := 3, maxLocals := 3, code := prog_1_method_8_code, exceptionTable := #[], attributes := #[] }
def k2m7 : Method := { name := "replaceLeg", desc := "(I)I", sig := { parameters := [.int], returnType := some .int }, accessFlags := 1, code := some k2c7 }
def k2c8 : Code := { maxStack := 3, maxLocals := 2, code := prog_1_method_9_code, exceptionTable := #[], attributes := #[] }
def k2m8 : Method := { name := "resync", desc := "()I", sig := { parameters := [], returnType := some .int }, accessFlags := 1, code := some k2c8 }
def k2c9 : Code := { maxStack := 3, maxLocals := 3, code := prog_1_method_10_code, exceptionTable := #[], attributes := #[] }
def k2m9 : Method := { name := "read", desc := "(I)I", sig := { parameters := [.int], returnType := some .int }, accessFlags := 1, code := some k2c9 }
def k2c10 : Code := { maxStack := 3, maxLocals := 3, code := prog_1_method_11_code, exceptionTable := #[], attributes := #[] }
def k2m10 : Method := { name := "peek", desc := "(II)I", sig := { parameters := [.int, .int], returnType := some .int }, accessFlags := 1, code := some k2c10 }
def k2c11 : Code := { maxStack := 2, maxLocals := 2, code := prog_1_method_12_code, exceptionTable := #[], attributes := #[] }
def k2m11 : Method := { name := "legState", desc := "(I)I", sig := { parameters := [.int], returnType := some .int }, accessFlags := 1, code := some k2c11 }
def k2c12 : Code := { maxStack := 1, maxLocals := 1, code := prog_1_method_13_code, exceptionTable := #[], attributes := #[] }
def k2m12 : Method := { name := "pendingBlock", desc := "()I", sig := { parameters := [], returnType := some .int }, accessFlags := 1, code := some k2c12 }
def k2c13 : Code := { maxStack := 1, maxLocals := 1, code := prog_1_method_15_code, exceptionTable := #[], attributes := #[] }
def k2m13 : Method := { name := "isDown", desc := "()Z", sig := { parameters := [], returnType := some .boolean }, accessFlags := 1, code := some k2c13 }
def k2c14 : Code := { maxStack := 2, maxLocals := 2, code := prog_1_method_16_code, exceptionTable := #[], attributes := #[] }
def k2m14 : Method := { name := "ackedValue", desc := "(I)I", sig := { parameters := [.int], returnType := some .int }, accessFlags := 1, code := some k2c14 }
def k2c15 : Code := { maxStack := 2, maxLocals := 3, code := prog_1_method_17_code, exceptionTable := #[], attributes := #[] }
def k2m15 : Method := { name := "clamp", desc := "(III)I", sig := { parameters := [.int, .int, .int], returnType := some .int }, accessFlags := 10, code := some k2c15 }
def k2c16 : Code := { maxStack := 2, maxLocals := 2, code := prog_1_method_18_code, exceptionTable := #[], attributes := #[] }
def k2m16 : Method := { name := "validBlock", desc := "(I)Z", sig := { parameters := [.int], returnType := some .boolean }, accessFlags := 2, code := some k2c16 }
def k2c17 : Code := { maxStack := 2, maxLocals := 2, code := prog_1_method_19_code, exceptionTable := #[], attributes := #[] }
def k2m17 : Method := { name := "validLeg", desc := "(I)Z", sig := { parameters := [.int], returnType := some .boolean }, accessFlags := 2, code := some k2c17 }
def k2c18 : Code := { maxStack := 2, maxLocals := 1, code := prog_1_method_20_code, exceptionTable := #[], attributes := #[] }
def k2m18 : Method := { name := "bothActive", desc := "()Z", sig := { parameters := [], returnType := some .boolean }, accessFlags := 2, code := some k2c18 }
def k2c19 : Code := { maxStack := 2, maxLocals := 2, code := prog_1_method_21_code, exceptionTable := #[], attributes := #[] }
def k2m19 : Method := { name := "checkDetached", desc := "(I)I", sig := { parameters := [.int], returnType := some .int }, accessFlags := 2, code := some k2c19 }
def k2c20 : Code := { maxStack := 2, maxLocals := 1, code := prog_1_method_22_code, exceptionTable := #[], attributes := #[] }
def k2m20 : Method := { name := "staleLeg", desc := "()I", sig := { parameters := [], returnType := some .int }, accessFlags := 2, code := some k2c20 }
def k2c21 : Code := { maxStack := 2, maxLocals := 1, code := prog_1_method_23_code, exceptionTable := #[], attributes := #[] }
def k2m21 : Method := { name := "clearPending", desc := "()V", sig := { parameters := [], returnType := none }, accessFlags := 2, code := some k2c21 }
def k2c22 : Code := { maxStack := 3, maxLocals := 3, code := prog_1_method_24_code, exceptionTable := #[], attributes := #[] }
def k2m22 : Method := { name := "acknowledge", desc := "()V", sig := { parameters := [], returnType := none }, accessFlags := 2, code := some k2c22 }
def k2c23 : Code := { maxStack := 4, maxLocals := 3, code := prog_1_method_25_code, exceptionTable := #[], attributes := #[] }
def k2m23 : Method := { name := "ageOthers", desc := "(I)V", sig := { parameters := [.int], returnType := none }, accessFlags := 2, code := some k2c23 }
def k2c24 : Code := { maxStack := 3, maxLocals := 2, code := prog_1_method_26_code, exceptionTable := #[], attributes := #[] }
def k2m24 : Method := { name := "clearAged", desc := "()V", sig := { parameters := [], returnType := none }, accessFlags := 2, code := some k2c24 }
def k2c25 : Code := { maxStack := 3, maxLocals := 2, code := prog_1_method_27_code, exceptionTable := #[], attributes := #[] }
def k2m25 : Method := { name := "markDirty", desc := "(I)V", sig := { parameters := [.int], returnType := none }, accessFlags := 2, code := some k2c25 }
def k2c26 : Code := { maxStack := 2, maxLocals := 2, code := prog_1_method_28_code, exceptionTable := #[], attributes := #[] }
def k2m26 : Method := { name := "markAllDirty", desc := "()V", sig := { parameters := [], returnType := none }, accessFlags := 2, code := some k2c26 }
def k2c27 : Code := { maxStack := 3, maxLocals := 2, code := prog_1_method_29_code, exceptionTable := #[], attributes := #[] }
def k2m27 : Method := { name := "clearBitmap", desc := "()V", sig := { parameters := [], returnType := none }, accessFlags := 2, code := some k2c27 }
def k2c28 : Code := { maxStack := 3, maxLocals := 4, code := prog_1_method_30_code, exceptionTable := #[], attributes := #[] }
def k2m28 : Method := { name := "zeroLeg", desc := "(I)V", sig := { parameters := [.int], returnType := none }, accessFlags := 2, code := some k2c28 }
def k2c29 : Code := { maxStack := 5, maxLocals := 9, code := prog_1_method_31_code, exceptionTable := #[], attributes := #[] }
def k2m29 : Method := { name := "copyDirtyRegions", desc := "(II)V", sig := { parameters := [.int, .int], returnType := none }, accessFlags := 2, code := some k2c29 }
/-- MirrorResync -/
def k2 : Class := { plain "MirrorResync" (some 0) with
  accessFlags := 49
  interfaces := #[]
  cf := some (fileOf pool2 8 #[] #[{ accessFlags := 1, nameIndex := 5, descriptorIndex := 137, attributes := #[] }, { accessFlags := 1, nameIndex := 140, descriptorIndex := 141, attributes := #[] }, { accessFlags := 1, nameIndex := 143, descriptorIndex := 93, attributes := #[] }, { accessFlags := 1, nameIndex := 144, descriptorIndex := 93, attributes := #[] }, { accessFlags := 1, nameIndex := 145, descriptorIndex := 93, attributes := #[] }, { accessFlags := 1, nameIndex := 146, descriptorIndex := 83, attributes := #[] }, { accessFlags := 1, nameIndex := 147, descriptorIndex := 83, attributes := #[] }, { accessFlags := 1, nameIndex := 148, descriptorIndex := 83, attributes := #[] }, { accessFlags := 1, nameIndex := 149, descriptorIndex := 93, attributes := #[] }, { accessFlags := 1, nameIndex := 150, descriptorIndex := 83, attributes := #[] }, { accessFlags := 1, nameIndex := 151, descriptorIndex := 141, attributes := #[] }, { accessFlags := 1, nameIndex := 152, descriptorIndex := 83, attributes := #[] }, { accessFlags := 1, nameIndex := 153, descriptorIndex := 93, attributes := #[] }, { accessFlags := 1, nameIndex := 155, descriptorIndex := 107, attributes := #[] }, { accessFlags := 1, nameIndex := 156, descriptorIndex := 83, attributes := #[] }, { accessFlags := 10, nameIndex := 31, descriptorIndex := 32, attributes := #[] }, { accessFlags := 2, nameIndex := 64, descriptorIndex := 65, attributes := #[] }, { accessFlags := 2, nameIndex := 79, descriptorIndex := 65, attributes := #[] }, { accessFlags := 2, nameIndex := 106, descriptorIndex := 107, attributes := #[] }, { accessFlags := 2, nameIndex := 82, descriptorIndex := 83, attributes := #[] }, { accessFlags := 2, nameIndex := 92, descriptorIndex := 93, attributes := #[] }, { accessFlags := 2, nameIndex := 76, descriptorIndex := 6, attributes := #[] }, { accessFlags := 2, nameIndex := 73, descriptorIndex := 6, attributes := #[] }, { accessFlags := 2, nameIndex := 103, descriptorIndex := 70, attributes := #[] }, { accessFlags := 2, nameIndex := 110, descriptorIndex := 6, attributes := #[] }, { accessFlags := 2, nameIndex := 69, descriptorIndex := 70, attributes := #[] }, { accessFlags := 2, nameIndex := 89, descriptorIndex := 6, attributes := #[] }, { accessFlags := 2, nameIndex := 100, descriptorIndex := 6, attributes := #[] }, { accessFlags := 2, nameIndex := 86, descriptorIndex := 70, attributes := #[] }, { accessFlags := 2, nameIndex := 96, descriptorIndex := 97, attributes := #[] }] 49 2 #[] #[{ accessFlags := 25, nameIndex := 111, descriptorIndex := 36, attributes := #[] }, { accessFlags := 25, nameIndex := 114, descriptorIndex := 36, attributes := #[] }, { accessFlags := 25, nameIndex := 116, descriptorIndex := 36, attributes := #[] }, { accessFlags := 25, nameIndex := 118, descriptorIndex := 36, attributes := #[] }, { accessFlags := 25, nameIndex := 120, descriptorIndex := 36, attributes := #[] }, { accessFlags := 25, nameIndex := 122, descriptorIndex := 36, attributes := #[] }, { accessFlags := 25, nameIndex := 124, descriptorIndex := 36, attributes := #[] }, { accessFlags := 25, nameIndex := 126, descriptorIndex := 36, attributes := #[] }, { accessFlags := 25, nameIndex := 128, descriptorIndex := 36, attributes := #[] }, { accessFlags := 25, nameIndex := 130, descriptorIndex := 36, attributes := #[] }, { accessFlags := 25, nameIndex := 131, descriptorIndex := 36, attributes := #[] }, { accessFlags := 25, nameIndex := 132, descriptorIndex := 36, attributes := #[] }, { accessFlags := 25, nameIndex := 133, descriptorIndex := 36, attributes := #[] }, { accessFlags := 25, nameIndex := 134, descriptorIndex := 36, attributes := #[] }, { accessFlags := 26, nameIndex := 135, descriptorIndex := 36, attributes := #[] }, { accessFlags := 2, nameIndex := 11, descriptorIndex := 12, attributes := #[] }, { accessFlags := 2, nameIndex := 15, descriptorIndex := 12, attributes := #[] }, { accessFlags := 2, nameIndex := 18, descriptorIndex := 12, attributes := #[] }, { accessFlags := 2, nameIndex := 21, descriptorIndex := 22, attributes := #[] }, { accessFlags := 2, nameIndex := 25, descriptorIndex := 22, attributes := #[] }, { accessFlags := 2, nameIndex := 28, descriptorIndex := 12, attributes := #[] }, { accessFlags := 2, nameIndex := 35, descriptorIndex := 36, attributes := #[] }, { accessFlags := 2, nameIndex := 39, descriptorIndex := 36, attributes := #[] }, { accessFlags := 2, nameIndex := 42, descriptorIndex := 36, attributes := #[] }, { accessFlags := 2, nameIndex := 45, descriptorIndex := 36, attributes := #[] }, { accessFlags := 2, nameIndex := 48, descriptorIndex := 49, attributes := #[] }, { accessFlags := 2, nameIndex := 52, descriptorIndex := 49, attributes := #[] }, { accessFlags := 2, nameIndex := 55, descriptorIndex := 36, attributes := #[] }, { accessFlags := 2, nameIndex := 58, descriptorIndex := 36, attributes := #[] }, { accessFlags := 2, nameIndex := 61, descriptorIndex := 36, attributes := #[] }])
  fields := #[{ name := "OK", type := .int, accessFlags := 25, slot := 0, constantValue := 0 }, { name := "ERR_DOWN", type := .int, accessFlags := 25, slot := 1, constantValue := 0 }, { name := "ERR_ARG", type := .int, accessFlags := 25, slot := 2, constantValue := 0 }, { name := "ERR_BUSY", type := .int, accessFlags := 25, slot := 3, constantValue := 0 }, { name := "ERR_STATE", type := .int, accessFlags := 25, slot := 4, constantValue := 0 }, { name := "ERR_IDLE", type := .int, accessFlags := 25, slot := 5, constantValue := 0 }, { name := "STEP_LEG0", type := .int, accessFlags := 25, slot := 6, constantValue := 0 }, { name := "STEP_LEG1", type := .int, accessFlags := 25, slot := 7, constantValue := 0 }, { name := "STEP_ACKED", type := .int, accessFlags := 25, slot := 8, constantValue := 0 }, { name := "ACTIVE", type := .int, accessFlags := 25, slot := 9, constantValue := 0 }, { name := "STALE", type := .int, accessFlags := 25, slot := 10, constantValue := 0 }, { name := "FAILED", type := .int, accessFlags := 25, slot := 11, constantValue := 0 }, { name := "NONE", type := .int, accessFlags := 25, slot := 12, constantValue := 0 }, { name := "MAX_VALUE", type := .int, accessFlags := 25, slot := 13, constantValue := 0 }, { name := "STRIDE", type := .int, accessFlags := 26, slot := 14, constantValue := 0 }, { name := "data", type := (.array .int), accessFlags := 2, slot := 0, constantValue := 0 }, { name := "acked", type := (.array .int), accessFlags := 2, slot := 1, constantValue := 0 }, { name := "state", type := (.array .int), accessFlags := 2, slot := 2, constantValue := 0 }, { name := "dirty", type := (.array .boolean), accessFlags := 2, slot := 3, constantValue := 0 }, { name := "pending", type := (.array .boolean), accessFlags := 2, slot := 4, constantValue := 0 }, { name := "age", type := (.array .int), accessFlags := 2, slot := 5, constantValue := 0 }, { name := "n", type := .int, accessFlags := 2, slot := 6, constantValue := 0 }, { name := "regionSize", type := .int, accessFlags := 2, slot := 7, constantValue := 0 }, { name := "clearDelay", type := .int, accessFlags := 2, slot := 8, constantValue := 0 }, { name := "regions", type := .int, accessFlags := 2, slot := 9, constantValue := 0 }, { name := "down", type := .boolean, accessFlags := 2, slot := 10, constantValue := 0 }, { name := "busy", type := .boolean, accessFlags := 2, slot := 11, constantValue := 0 }, { name := "pBlock", type := .int, accessFlags := 2, slot := 12, constantValue := 0 }, { name := "pValue", type := .int, accessFlags := 2, slot := 13, constantValue := 0 }, { name := "pCursor", type := .int, accessFlags := 2, slot := 14, constantValue := 0 }]
  methods := #[k2m0, k2m1, k2m2, k2m3, k2m4, k2m5, k2m6, k2m7, k2m8, k2m9, k2m10, k2m11, k2m12, k2m13, k2m14, k2m15, k2m16, k2m17, k2m18, k2m19, k2m20, k2m21, k2m22, k2m23, k2m24, k2m25, k2m26, k2m27, k2m28, k2m29]
  instanceTypes := #[(.array .int), (.array .int), (.array .int), (.array .boolean), (.array .boolean), (.array .int), .int, .int, .int, .int, .boolean, .boolean, .int, .int, .int]
  staticTypes := #[.int, .int, .int, .int, .int, .int, .int, .int, .int, .int, .int, .int, .int, .int, .int]
  resolved := Array.replicate 159 none
  statics := none }

def pool3 : Array CpInfo := pool [(1, u "java/lang/Cloneable"), (0, .class_ 1), (0, u "java/lang/Object"), (0, .class_ 3)] 3

/-- java/lang/Cloneable -/
def k3 : Class := { plain "java/lang/Cloneable" (some 0) with
  accessFlags := 1537
  interfaces := #[]
  cf := some (fileOf pool3 2 #[] #[] 1537 4 #[] #[])
  fields := #[]
  methods := #[]
  instanceTypes := #[]
  staticTypes := #[]
  resolved := Array.replicate 8 none
  statics := none }

def pool4 : Array CpInfo := pool [(1, u "java/io/Serializable"), (0, .class_ 1), (0, u "java/lang/Object"), (0, .class_ 3)] 3

/-- java/io/Serializable -/
def k4 : Class := { plain "java/io/Serializable" (some 0) with
  accessFlags := 1537
  interfaces := #[]
  cf := some (fileOf pool4 2 #[] #[] 1537 4 #[] #[])
  fields := #[]
  methods := #[]
  instanceTypes := #[]
  staticTypes := #[]
  resolved := Array.replicate 8 none
  statics := none }

/-- the primitive boolean -/
def k5 : Class := { plain "boolean" none with kind := .primitive 'Z', accessFlags := 0x411 }
/-- [Z -/
def k6 : Class := { plain "[Z" (some 0) with kind := .array 5 .boolean, interfaces := #[3, 4], accessFlags := 1041 }

/-- the primitive byte -/
def k7 : Class := { plain "byte" none with kind := .primitive 'B', accessFlags := 0x411 }
/-- [B -/
def k8 : Class := { plain "[B" (some 0) with kind := .array 7 .byte, interfaces := #[3, 4], accessFlags := 1041 }

/-- the primitive int -/
def k9 : Class := { plain "int" none with kind := .primitive 'I', accessFlags := 0x411 }
/-- [I -/
def k10 : Class := { plain "[I" (some 0) with kind := .array 9 .int, interfaces := #[3, 4], accessFlags := 1041 }

def heap : Heap := #[{ cls := 10, slots := #[.int 0, .int 3, .int 5], vm := .none }]
def classes : Array Class := #[k0, k1, k2, k3, k4, k5, k6, k7, k8, k9, k10]
def interned : List (Array UInt16 × Addr) := []
def slotsUsed : Nat := 3
def theMethod : MethodId := ⟨1, 4⟩
def args0 : Array Value := #[.ref 0]
def aboutOver (below : List Frame) : State where
  vm := { classes := classes, interned := interned.toArray }
  heap := heap
  slotsUsed := slotsUsed
  threads := #[{ frames := .invoking theMethod args0 :: below }]
def below0 : List Frame := [.native { method := ⟨0, 0⟩, args := #[] }]
def about1 : State := aboutOver below0
def p0 : Program := .bare "" "" ""
def e0 : Env := launch0.env 0 0 0
theorem w_frames : about1.frames = Frame.invoking theMethod args0 :: below0 := rfl
set_option maxRecDepth 65536 in
theorem w_args : argsFit about1.vm theMethod args0 = true := by decide +kernel
set_option maxRecDepth 65536 in
theorem w_heap : heapFits about1 = true := by decide +kernel
set_option maxRecDepth 65536 in
theorem w_runnable : about1.curStatus? = some .runnable := by decide +kernel
set_option maxRecDepth 65536 in
theorem w_alone : about1.alone = true := by decide +kernel
set_option maxRecDepth 65536 in
theorem w_named : about1.methodNamed? x = some theMethod := by decide +kernel
set_option maxRecDepth 65536 in
theorem w_hears : about1.hears theMethod below0 = true := by decide +kernel
set_option maxRecDepth 65536 in
theorem w_ripe : about1.ripe theMethod args0 below0 = true := by decide +kernel
theorem w_running : about1.status = .running := rfl
set_option maxRecDepth 65536 in
theorem w_room : about1.hasRoom e0.platform room_1 = true :=
  launch0.hasRoom_least _ room_1 (by decide +kernel) (by decide +kernel) (by decide +kernel) (by decide +kernel) (by decide +kernel) (by decide +kernel)
theorem allAtoms_all (ts : List Jvm.Cond) (a : Array Jvm.Value) (st : Jvm.State) : (allAtoms ts).before a st = ts.all (fun c => c.before a st) := by
  induction ts with
  | nil => rfl
  | cons c t ih =>
    show (Jvm.Cond.and c (allAtoms t)).before a st = _
    rw [Jvm.Cond.before_and, ih, List.all_cons]
def words1 : List Jvm.Cond := Jvm.Cond.code x code maxLocals ret :: tables_1
/-- a 'code' word, met by the world's own term for the bytes: nothing is compared byte by byte -/
theorem code_word {y : MethodName} {bytes : ByteArray} {mx : Nat} {rt : Option FieldType} {a : Array Value} {s : State} {m : MethodId} {meth : Method} {c : Code} (h1 : s.methodNamed? y = some m) (h2 : s.vm.method? m = some meth) (h3 : meth.code = some c) (h4 : c.code = bytes)
    (h5 : (c.maxLocals == mx && c.exceptionTable.isEmpty && decide (c.maxStack ≤ mostOperands) && decide (meth.sig.returnType = rt) && !meth.locks && decide (parseMethodDescriptor y.desc = some meth.sig)) = true) : (Jvm.Cond.code y bytes mx rt).before a s = true := by
  simp only [Bool.and_eq_true, beq_iff_eq, Bool.not_eq_true', decide_eq_true_eq] at h5
  obtain ⟨⟨⟨⟨⟨g1, g2⟩, g3⟩, g4⟩, g5⟩, g6⟩ := h5
  simp [Cond.before, Cond.holds, Cond.value, h1, h2, h3, h4, g1, g2, g3, g4, g5, g6]
def isCode : Jvm.Cond → Bool
  | .code _ _ _ _ => true
  | _ => false
theorem all_split {L : List Jvm.Cond} {P : Jvm.Cond → Bool} (h1 : L.all (fun c => isCode c || P c) = true) (h2 : ∀ c ∈ L.filter isCode, P c = true) : L.all P = true := by
  refine List.all_eq_true.mpr fun c hc => ?_
  have h := List.all_eq_true.mp h1 c hc
  rcases Bool.eq_false_or_eq_true (isCode c) with hi | hi
  · exact h2 c (List.mem_filter.mpr ⟨hc, hi⟩)
  · simpa [hi] using h
set_option maxRecDepth 65536 in
theorem w_c0 : (Jvm.Cond.code x code maxLocals ret).before args0 about1 = true := code_word (m := ⟨1, 4⟩) (meth := k1m4) (c := k1c4) (by decide +kernel) rfl rfl rfl (by decide +kernel)
set_option maxRecDepth 65536 in
theorem w_c1 : (Jvm.Cond.code ({ cls := "MirrorResync", name := "<init>", desc := "(III)V" } : Jvm.MethodName) prog_1_method_1_code (4 : Nat) (Option.none : Option Jvm.ClassFile.FieldType)).before args0 about1 = true := code_word (m := ⟨2, 0⟩) (meth := k2m0) (c := k2c0) (by decide +kernel) rfl rfl rfl (by decide +kernel)
set_option maxRecDepth 65536 in
theorem w_c2 : (Jvm.Cond.code ({ cls := "java/lang/Object", name := "<init>", desc := "()V" } : Jvm.MethodName) object_method_1_code (1 : Nat) (Option.none : Option Jvm.ClassFile.FieldType)).before args0 about1 = true := code_word (m := ⟨0, 0⟩) (meth := k0m0) (c := k0c0) (by decide +kernel) rfl rfl rfl (by decide +kernel)
set_option maxRecDepth 65536 in
theorem w_c3 : (Jvm.Cond.code ({ cls := "MirrorResync", name := "clamp", desc := "(III)I" } : Jvm.MethodName) prog_1_method_17_code (3 : Nat) (Option.some Jvm.ClassFile.FieldType.int)).before args0 about1 = true := code_word (m := ⟨2, 15⟩) (meth := k2m15) (c := k2c15) (by decide +kernel) rfl rfl rfl (by decide +kernel)
set_option maxRecDepth 65536 in
theorem w_c4 : (Jvm.Cond.code ({ cls := "MirrorResync", name := "crash", desc := "()I" } : Jvm.MethodName) prog_1_method_4_code (1 : Nat) (Option.some Jvm.ClassFile.FieldType.int)).before args0 about1 = true := code_word (m := ⟨2, 3⟩) (meth := k2m3) (c := k2c3) (by decide +kernel) rfl rfl rfl (by decide +kernel)
set_option maxRecDepth 65536 in
theorem w_c5 : (Jvm.Cond.code ({ cls := "MirrorResync", name := "clearPending", desc := "()V" } : Jvm.MethodName) prog_1_method_23_code (1 : Nat) (Option.none : Option Jvm.ClassFile.FieldType)).before args0 about1 = true := code_word (m := ⟨2, 21⟩) (meth := k2m21) (c := k2c21) (by decide +kernel) rfl rfl rfl (by decide +kernel)
set_option maxRecDepth 65536 in
theorem w_c6 : (Jvm.Cond.code ({ cls := "MirrorResync", name := "write", desc := "(II)I" } : Jvm.MethodName) prog_1_method_2_code (3 : Nat) (Option.some Jvm.ClassFile.FieldType.int)).before args0 about1 = true := code_word (m := ⟨2, 1⟩) (meth := k2m1) (c := k2c1) (by decide +kernel) rfl rfl rfl (by decide +kernel)
set_option maxRecDepth 65536 in
theorem w_c7 : (Jvm.Cond.code ({ cls := "MirrorResync", name := "failLeg", desc := "(I)I" } : Jvm.MethodName) prog_1_method_6_code (2 : Nat) (Option.some Jvm.ClassFile.FieldType.int)).before args0 about1 = true := code_word (m := ⟨2, 5⟩) (meth := k2m5) (c := k2c5) (by decide +kernel) rfl rfl rfl (by decide +kernel)
set_option maxRecDepth 65536 in
theorem w_c8 : (Jvm.Cond.code ({ cls := "MirrorResync", name := "restart", desc := "()I" } : Jvm.MethodName) prog_1_method_5_code (1 : Nat) (Option.some Jvm.ClassFile.FieldType.int)).before args0 about1 = true := code_word (m := ⟨2, 4⟩) (meth := k2m4) (c := k2c4) (by decide +kernel) rfl rfl rfl (by decide +kernel)
set_option maxRecDepth 65536 in
theorem w_c9 : (Jvm.Cond.code ({ cls := "MirrorResync", name := "validLeg", desc := "(I)Z" } : Jvm.MethodName) prog_1_method_19_code (2 : Nat) (Option.some Jvm.ClassFile.FieldType.boolean)).before args0 about1 = true := code_word (m := ⟨2, 17⟩) (meth := k2m17) (c := k2c17) (by decide +kernel) rfl rfl rfl (by decide +kernel)
set_option maxRecDepth 65536 in
theorem w_c10 : (Jvm.Cond.code ({ cls := "MirrorResync", name := "validBlock", desc := "(I)Z" } : Jvm.MethodName) prog_1_method_18_code (2 : Nat) (Option.some Jvm.ClassFile.FieldType.boolean)).before args0 about1 = true := code_word (m := ⟨2, 16⟩) (meth := k2m16) (c := k2c16) (by decide +kernel) rfl rfl rfl (by decide +kernel)
set_option maxRecDepth 65536 in
theorem w_c11 : (Jvm.Cond.code ({ cls := "MirrorResync", name := "markDirty", desc := "(I)V" } : Jvm.MethodName) prog_1_method_27_code (2 : Nat) (Option.none : Option Jvm.ClassFile.FieldType)).before args0 about1 = true := code_word (m := ⟨2, 25⟩) (meth := k2m25) (c := k2c25) (by decide +kernel) rfl rfl rfl (by decide +kernel)
set_option maxRecDepth 65536 in
theorem w_c12 : (Jvm.Cond.code ({ cls := "MirrorResyncL7", name := "relation", desc := "(LMirrorResync;)Z" } : Jvm.MethodName) method_4_code (22 : Nat) (Option.some Jvm.ClassFile.FieldType.boolean)).before args0 about1 = true := code_word (m := ⟨1, 3⟩) (meth := k1m3) (c := k1c3) (by decide +kernel) rfl rfl rfl (by decide +kernel)
set_option maxRecDepth 65536 in
theorem w_c13 : (Jvm.Cond.code ({ cls := "MirrorResync", name := "isDown", desc := "()Z" } : Jvm.MethodName) prog_1_method_15_code (1 : Nat) (Option.some Jvm.ClassFile.FieldType.boolean)).before args0 about1 = true := code_word (m := ⟨2, 13⟩) (meth := k2m13) (c := k2c13) (by decide +kernel) rfl rfl rfl (by decide +kernel)
set_option maxRecDepth 65536 in
theorem w_c14 : (Jvm.Cond.code ({ cls := "MirrorResync", name := "pendingBlock", desc := "()I" } : Jvm.MethodName) prog_1_method_13_code (1 : Nat) (Option.some Jvm.ClassFile.FieldType.int)).before args0 about1 = true := code_word (m := ⟨2, 12⟩) (meth := k2m12) (c := k2c12) (by decide +kernel) rfl rfl rfl (by decide +kernel)
set_option maxRecDepth 65536 in
theorem w_c15 : (Jvm.Cond.code ({ cls := "MirrorResync", name := "legState", desc := "(I)I" } : Jvm.MethodName) prog_1_method_12_code (2 : Nat) (Option.some Jvm.ClassFile.FieldType.int)).before args0 about1 = true := code_word (m := ⟨2, 11⟩) (meth := k2m11) (c := k2c11) (by decide +kernel) rfl rfl rfl (by decide +kernel)
set_option maxRecDepth 65536 in
theorem w_c16 : (Jvm.Cond.code ({ cls := "MirrorResyncL7", name := "pack", desc := "(LMirrorResync;I)J" } : Jvm.MethodName) method_3_code (6 : Nat) (Option.some Jvm.ClassFile.FieldType.long)).before args0 about1 = true := code_word (m := ⟨1, 2⟩) (meth := k1m2) (c := k1c2) (by decide +kernel) rfl rfl rfl (by decide +kernel)
set_option maxRecDepth 65536 in
theorem w_c17 : (Jvm.Cond.code ({ cls := "MirrorResync", name := "peek", desc := "(II)I" } : Jvm.MethodName) prog_1_method_11_code (3 : Nat) (Option.some Jvm.ClassFile.FieldType.int)).before args0 about1 = true := code_word (m := ⟨2, 10⟩) (meth := k2m10) (c := k2c10) (by decide +kernel) rfl rfl rfl (by decide +kernel)
set_option maxRecDepth 65536 in
theorem w_c18 : (Jvm.Cond.code ({ cls := "MirrorResync", name := "ackedValue", desc := "(I)I" } : Jvm.MethodName) prog_1_method_16_code (2 : Nat) (Option.some Jvm.ClassFile.FieldType.int)).before args0 about1 = true := code_word (m := ⟨2, 14⟩) (meth := k2m14) (c := k2c14) (by decide +kernel) rfl rfl rfl (by decide +kernel)
set_option maxRecDepth 65536 in
theorem w_c19 : (Jvm.Cond.code ({ cls := "MirrorResync", name := "resync", desc := "()I" } : Jvm.MethodName) prog_1_method_9_code (2 : Nat) (Option.some Jvm.ClassFile.FieldType.int)).before args0 about1 = true := code_word (m := ⟨2, 8⟩) (meth := k2m8) (c := k2c8) (by decide +kernel) rfl rfl rfl (by decide +kernel)
set_option maxRecDepth 65536 in
theorem w_c20 : (Jvm.Cond.code ({ cls := "MirrorResync", name := "staleLeg", desc := "()I" } : Jvm.MethodName) prog_1_method_22_code (1 : Nat) (Option.some Jvm.ClassFile.FieldType.int)).before args0 about1 = true := code_word (m := ⟨2, 20⟩) (meth := k2m20) (c := k2c20) (by decide +kernel) rfl rfl rfl (by decide +kernel)
set_option maxRecDepth 65536 in
theorem w_c21 : (Jvm.Cond.code ({ cls := "MirrorResyncL7", name := "get", desc := "(JI)I" } : Jvm.MethodName) method_2_code (3 : Nat) (Option.some Jvm.ClassFile.FieldType.int)).before args0 about1 = true := code_word (m := ⟨1, 1⟩) (meth := k1m1) (c := k1c1) (by decide +kernel) rfl rfl rfl (by decide +kernel)
set_option maxRecDepth 65536 in
theorem w_c22 : (Jvm.Cond.code ({ cls := "MirrorResync", name := "read", desc := "(I)I" } : Jvm.MethodName) prog_1_method_10_code (3 : Nat) (Option.some Jvm.ClassFile.FieldType.int)).before args0 about1 = true := code_word (m := ⟨2, 9⟩) (meth := k2m9) (c := k2c9) (by decide +kernel) rfl rfl rfl (by decide +kernel)
set_option maxRecDepth 65536 in
theorem w_c23 : (Jvm.Cond.code ({ cls := "MirrorResync", name := "step", desc := "()I" } : Jvm.MethodName) prog_1_method_3_code (2 : Nat) (Option.some Jvm.ClassFile.FieldType.int)).before args0 about1 = true := code_word (m := ⟨2, 2⟩) (meth := k2m2) (c := k2c2) (by decide +kernel) rfl rfl rfl (by decide +kernel)
set_option maxRecDepth 65536 in
theorem w_c24 : (Jvm.Cond.code ({ cls := "MirrorResync", name := "reattachLeg", desc := "(I)I" } : Jvm.MethodName) prog_1_method_7_code (3 : Nat) (Option.some Jvm.ClassFile.FieldType.int)).before args0 about1 = true := code_word (m := ⟨2, 6⟩) (meth := k2m6) (c := k2c6) (by decide +kernel) rfl rfl rfl (by decide +kernel)
set_option maxRecDepth 65536 in
theorem w_c25 : (Jvm.Cond.code ({ cls := "MirrorResync", name := "checkDetached", desc := "(I)I" } : Jvm.MethodName) prog_1_method_21_code (2 : Nat) (Option.some Jvm.ClassFile.FieldType.int)).before args0 about1 = true := code_word (m := ⟨2, 19⟩) (meth := k2m19) (c := k2c19) (by decide +kernel) rfl rfl rfl (by decide +kernel)
set_option maxRecDepth 65536 in
theorem w_c26 : (Jvm.Cond.code ({ cls := "MirrorResync", name := "acknowledge", desc := "()V" } : Jvm.MethodName) prog_1_method_24_code (3 : Nat) (Option.none : Option Jvm.ClassFile.FieldType)).before args0 about1 = true := code_word (m := ⟨2, 22⟩) (meth := k2m22) (c := k2c22) (by decide +kernel) rfl rfl rfl (by decide +kernel)
set_option maxRecDepth 65536 in
theorem w_c27 : (Jvm.Cond.code ({ cls := "MirrorResync", name := "ageOthers", desc := "(I)V" } : Jvm.MethodName) prog_1_method_25_code (3 : Nat) (Option.none : Option Jvm.ClassFile.FieldType)).before args0 about1 = true := code_word (m := ⟨2, 23⟩) (meth := k2m23) (c := k2c23) (by decide +kernel) rfl rfl rfl (by decide +kernel)
set_option maxRecDepth 65536 in
theorem w_c28 : (Jvm.Cond.code ({ cls := "MirrorResync", name := "bothActive", desc := "()Z" } : Jvm.MethodName) prog_1_method_20_code (1 : Nat) (Option.some Jvm.ClassFile.FieldType.boolean)).before args0 about1 = true := code_word (m := ⟨2, 18⟩) (meth := k2m18) (c := k2c18) (by decide +kernel) rfl rfl rfl (by decide +kernel)
set_option maxRecDepth 65536 in
theorem w_c29 : (Jvm.Cond.code ({ cls := "MirrorResync", name := "replaceLeg", desc := "(I)I" } : Jvm.MethodName) prog_1_method_8_code (3 : Nat) (Option.some Jvm.ClassFile.FieldType.int)).before args0 about1 = true := code_word (m := ⟨2, 7⟩) (meth := k2m7) (c := k2c7) (by decide +kernel) rfl rfl rfl (by decide +kernel)
set_option maxRecDepth 65536 in
theorem w_c30 : (Jvm.Cond.code ({ cls := "MirrorResync", name := "copyDirtyRegions", desc := "(II)V" } : Jvm.MethodName) prog_1_method_31_code (9 : Nat) (Option.none : Option Jvm.ClassFile.FieldType)).before args0 about1 = true := code_word (m := ⟨2, 29⟩) (meth := k2m29) (c := k2c29) (by decide +kernel) rfl rfl rfl (by decide +kernel)
set_option maxRecDepth 65536 in
theorem w_c31 : (Jvm.Cond.code ({ cls := "MirrorResync", name := "clearBitmap", desc := "()V" } : Jvm.MethodName) prog_1_method_29_code (2 : Nat) (Option.none : Option Jvm.ClassFile.FieldType)).before args0 about1 = true := code_word (m := ⟨2, 27⟩) (meth := k2m27) (c := k2c27) (by decide +kernel) rfl rfl rfl (by decide +kernel)
set_option maxRecDepth 65536 in
theorem w_c32 : (Jvm.Cond.code ({ cls := "MirrorResync", name := "zeroLeg", desc := "(I)V" } : Jvm.MethodName) prog_1_method_30_code (4 : Nat) (Option.none : Option Jvm.ClassFile.FieldType)).before args0 about1 = true := code_word (m := ⟨2, 28⟩) (meth := k2m28) (c := k2c28) (by decide +kernel) rfl rfl rfl (by decide +kernel)
set_option maxRecDepth 65536 in
theorem w_c33 : (Jvm.Cond.code ({ cls := "MirrorResync", name := "markAllDirty", desc := "()V" } : Jvm.MethodName) prog_1_method_28_code (2 : Nat) (Option.none : Option Jvm.ClassFile.FieldType)).before args0 about1 = true := code_word (m := ⟨2, 26⟩) (meth := k2m26) (c := k2c26) (by decide +kernel) rfl rfl rfl (by decide +kernel)
set_option maxRecDepth 65536 in
theorem w_c34 : (Jvm.Cond.code ({ cls := "MirrorResync", name := "clearAged", desc := "()V" } : Jvm.MethodName) prog_1_method_26_code (2 : Nat) (Option.none : Option Jvm.ClassFile.FieldType)).before args0 about1 = true := code_word (m := ⟨2, 24⟩) (meth := k2m24) (c := k2c24) (by decide +kernel) rfl rfl rfl (by decide +kernel)
def codes1 : List Jvm.Cond := [Jvm.Cond.code x code maxLocals ret, Jvm.Cond.code ({ cls := "MirrorResync", name := "<init>", desc := "(III)V" } : Jvm.MethodName) prog_1_method_1_code (4 : Nat) (Option.none : Option Jvm.ClassFile.FieldType), Jvm.Cond.code ({ cls := "java/lang/Object", name := "<init>", desc := "()V" } : Jvm.MethodName) object_method_1_code (1 : Nat) (Option.none : Option Jvm.ClassFile.FieldType), Jvm.Cond.code ({ cls := "MirrorResync", name := "clamp", desc := "(III)I" } : Jvm.MethodName) prog_1_method_17_code (3 : Nat) (Option.some Jvm.ClassFile.FieldType.int), Jvm.Cond.code ({ cls := "MirrorResync", name := "crash", desc := "()I" } : Jvm.MethodName) prog_1_method_4_code (1 : Nat) (Option.some Jvm.ClassFile.FieldType.int), Jvm.Cond.code ({ cls := "MirrorResync", name := "clearPending", desc := "()V" } : Jvm.MethodName) prog_1_method_23_code (1 : Nat) (Option.none : Option Jvm.ClassFile.FieldType), Jvm.Cond.code ({ cls := "MirrorResync", name := "write", desc := "(II)I" } : Jvm.MethodName) prog_1_method_2_code (3 : Nat) (Option.some Jvm.ClassFile.FieldType.int), Jvm.Cond.code ({ cls := "MirrorResync", name := "failLeg", desc := "(I)I" } : Jvm.MethodName) prog_1_method_6_code (2 : Nat) (Option.some Jvm.ClassFile.FieldType.int), Jvm.Cond.code ({ cls := "MirrorResync", name := "restart", desc := "()I" } : Jvm.MethodName) prog_1_method_5_code (1 : Nat) (Option.some Jvm.ClassFile.FieldType.int), Jvm.Cond.code ({ cls := "MirrorResync", name := "validLeg", desc := "(I)Z" } : Jvm.MethodName) prog_1_method_19_code (2 : Nat) (Option.some Jvm.ClassFile.FieldType.boolean), Jvm.Cond.code ({ cls := "MirrorResync", name := "validBlock", desc := "(I)Z" } : Jvm.MethodName) prog_1_method_18_code (2 : Nat) (Option.some Jvm.ClassFile.FieldType.boolean), Jvm.Cond.code ({ cls := "MirrorResync", name := "markDirty", desc := "(I)V" } : Jvm.MethodName) prog_1_method_27_code (2 : Nat) (Option.none : Option Jvm.ClassFile.FieldType), Jvm.Cond.code ({ cls := "MirrorResyncL7", name := "relation", desc := "(LMirrorResync;)Z" } : Jvm.MethodName) method_4_code (22 : Nat) (Option.some Jvm.ClassFile.FieldType.boolean), Jvm.Cond.code ({ cls := "MirrorResync", name := "isDown", desc := "()Z" } : Jvm.MethodName) prog_1_method_15_code (1 : Nat) (Option.some Jvm.ClassFile.FieldType.boolean), Jvm.Cond.code ({ cls := "MirrorResync", name := "pendingBlock", desc := "()I" } : Jvm.MethodName) prog_1_method_13_code (1 : Nat) (Option.some Jvm.ClassFile.FieldType.int), Jvm.Cond.code ({ cls := "MirrorResync", name := "legState", desc := "(I)I" } : Jvm.MethodName) prog_1_method_12_code (2 : Nat) (Option.some Jvm.ClassFile.FieldType.int), Jvm.Cond.code ({ cls := "MirrorResyncL7", name := "pack", desc := "(LMirrorResync;I)J" } : Jvm.MethodName) method_3_code (6 : Nat) (Option.some Jvm.ClassFile.FieldType.long), Jvm.Cond.code ({ cls := "MirrorResync", name := "peek", desc := "(II)I" } : Jvm.MethodName) prog_1_method_11_code (3 : Nat) (Option.some Jvm.ClassFile.FieldType.int), Jvm.Cond.code ({ cls := "MirrorResync", name := "ackedValue", desc := "(I)I" } : Jvm.MethodName) prog_1_method_16_code (2 : Nat) (Option.some Jvm.ClassFile.FieldType.int), Jvm.Cond.code ({ cls := "MirrorResync", name := "resync", desc := "()I" } : Jvm.MethodName) prog_1_method_9_code (2 : Nat) (Option.some Jvm.ClassFile.FieldType.int), Jvm.Cond.code ({ cls := "MirrorResync", name := "staleLeg", desc := "()I" } : Jvm.MethodName) prog_1_method_22_code (1 : Nat) (Option.some Jvm.ClassFile.FieldType.int), Jvm.Cond.code ({ cls := "MirrorResyncL7", name := "get", desc := "(JI)I" } : Jvm.MethodName) method_2_code (3 : Nat) (Option.some Jvm.ClassFile.FieldType.int), Jvm.Cond.code ({ cls := "MirrorResync", name := "read", desc := "(I)I" } : Jvm.MethodName) prog_1_method_10_code (3 : Nat) (Option.some Jvm.ClassFile.FieldType.int), Jvm.Cond.code ({ cls := "MirrorResync", name := "step", desc := "()I" } : Jvm.MethodName) prog_1_method_3_code (2 : Nat) (Option.some Jvm.ClassFile.FieldType.int), Jvm.Cond.code ({ cls := "MirrorResync", name := "reattachLeg", desc := "(I)I" } : Jvm.MethodName) prog_1_method_7_code (3 : Nat) (Option.some Jvm.ClassFile.FieldType.int), Jvm.Cond.code ({ cls := "MirrorResync", name := "checkDetached", desc := "(I)I" } : Jvm.MethodName) prog_1_method_21_code (2 : Nat) (Option.some Jvm.ClassFile.FieldType.int), Jvm.Cond.code ({ cls := "MirrorResync", name := "acknowledge", desc := "()V" } : Jvm.MethodName) prog_1_method_24_code (3 : Nat) (Option.none : Option Jvm.ClassFile.FieldType), Jvm.Cond.code ({ cls := "MirrorResync", name := "ageOthers", desc := "(I)V" } : Jvm.MethodName) prog_1_method_25_code (3 : Nat) (Option.none : Option Jvm.ClassFile.FieldType), Jvm.Cond.code ({ cls := "MirrorResync", name := "bothActive", desc := "()Z" } : Jvm.MethodName) prog_1_method_20_code (1 : Nat) (Option.some Jvm.ClassFile.FieldType.boolean), Jvm.Cond.code ({ cls := "MirrorResync", name := "replaceLeg", desc := "(I)I" } : Jvm.MethodName) prog_1_method_8_code (3 : Nat) (Option.some Jvm.ClassFile.FieldType.int), Jvm.Cond.code ({ cls := "MirrorResync", name := "copyDirtyRegions", desc := "(II)V" } : Jvm.MethodName) prog_1_method_31_code (9 : Nat) (Option.none : Option Jvm.ClassFile.FieldType), Jvm.Cond.code ({ cls := "MirrorResync", name := "clearBitmap", desc := "()V" } : Jvm.MethodName) prog_1_method_29_code (2 : Nat) (Option.none : Option Jvm.ClassFile.FieldType), Jvm.Cond.code ({ cls := "MirrorResync", name := "zeroLeg", desc := "(I)V" } : Jvm.MethodName) prog_1_method_30_code (4 : Nat) (Option.none : Option Jvm.ClassFile.FieldType), Jvm.Cond.code ({ cls := "MirrorResync", name := "markAllDirty", desc := "()V" } : Jvm.MethodName) prog_1_method_28_code (2 : Nat) (Option.none : Option Jvm.ClassFile.FieldType), Jvm.Cond.code ({ cls := "MirrorResync", name := "clearAged", desc := "()V" } : Jvm.MethodName) prog_1_method_26_code (2 : Nat) (Option.none : Option Jvm.ClassFile.FieldType)]
set_option maxRecDepth 65536 in
theorem codes_eq : words1.filter isCode = codes1 := rfl
theorem w_codes : ∀ c ∈ words1.filter isCode, c.before args0 about1 = true := by
  rw [codes_eq]
  intro c hc
  simp only [codes1, List.mem_cons, List.not_mem_nil, or_false] at hc
  rcases hc with rfl | rfl | rfl | rfl | rfl | rfl | rfl | rfl | rfl | rfl | rfl | rfl | rfl | rfl | rfl | rfl | rfl | rfl | rfl | rfl | rfl | rfl | rfl | rfl | rfl | rfl | rfl | rfl | rfl | rfl | rfl | rfl | rfl | rfl | rfl
  · exact w_c0
  · exact w_c1
  · exact w_c2
  · exact w_c3
  · exact w_c4
  · exact w_c5
  · exact w_c6
  · exact w_c7
  · exact w_c8
  · exact w_c9
  · exact w_c10
  · exact w_c11
  · exact w_c12
  · exact w_c13
  · exact w_c14
  · exact w_c15
  · exact w_c16
  · exact w_c17
  · exact w_c18
  · exact w_c19
  · exact w_c20
  · exact w_c21
  · exact w_c22
  · exact w_c23
  · exact w_c24
  · exact w_c25
  · exact w_c26
  · exact w_c27
  · exact w_c28
  · exact w_c29
  · exact w_c30
  · exact w_c31
  · exact w_c32
  · exact w_c33
  · exact w_c34
set_option maxRecDepth 65536 in
theorem w_t1 : (words1.take 24).all (fun c => isCode c || c.before args0 about1) = true := by decide +kernel
set_option maxRecDepth 65536 in
theorem w_t2 : ((words1.drop 24).take 24).all (fun c => isCode c || c.before args0 about1) = true := by decide +kernel
set_option maxRecDepth 65536 in
theorem w_t3 : (((words1.drop 24).drop 24).take 24).all (fun c => isCode c || c.before args0 about1) = true := by decide +kernel
set_option maxRecDepth 65536 in
theorem w_t4 : ((((words1.drop 24).drop 24).drop 24).take 24).all (fun c => isCode c || c.before args0 about1) = true := by decide +kernel
set_option maxRecDepth 65536 in
theorem w_t5 : (((((words1.drop 24).drop 24).drop 24).drop 24).take 24).all (fun c => isCode c || c.before args0 about1) = true := by decide +kernel
set_option maxRecDepth 65536 in
theorem w_t6 : ((((((words1.drop 24).drop 24).drop 24).drop 24).drop 24).take 24).all (fun c => isCode c || c.before args0 about1) = true := by decide +kernel
set_option maxRecDepth 65536 in
theorem w_t7 : (((((((words1.drop 24).drop 24).drop 24).drop 24).drop 24).drop 24).take 24).all (fun c => isCode c || c.before args0 about1) = true := by decide +kernel
set_option maxRecDepth 65536 in
theorem w_t8 : (((((((words1.drop 24).drop 24).drop 24).drop 24).drop 24).drop 24).drop 24).all (fun c => isCode c || c.before args0 about1) = true := by decide +kernel
theorem w_tables : (allAtoms (Jvm.Cond.code x code maxLocals ret :: tables_1)).before args0 about1 = true := by
  rw [allAtoms_all]
  show words1.all (fun c => c.before args0 about1) = true
  refine all_split ?_ w_codes
  rw [← List.take_append_drop 24 words1, List.all_append, w_t1, ← List.take_append_drop 24 (words1.drop 24), List.all_append, w_t2, ← List.take_append_drop 24 ((words1.drop 24).drop 24), List.all_append, w_t3, ← List.take_append_drop 24 (((words1.drop 24).drop 24).drop 24), List.all_append, w_t4, ← List.take_append_drop 24 ((((words1.drop 24).drop 24).drop 24).drop 24), List.all_append, w_t5, ← List.take_append_drop 24 (((((words1.drop 24).drop 24).drop 24).drop 24).drop 24), List.all_append, w_t6, ← List.take_append_drop 24 ((((((words1.drop 24).drop 24).drop 24).drop 24).drop 24).drop 24), List.all_append, w_t7, w_t8]
  rfl
set_option maxRecDepth 65536 in
theorem w_rest : rest_1_c.before args0 about1 = true := by decide +kernel
set_option maxRecDepth 65536 in
theorem w_case : (Jvm.Cond.and given_1 narrow_1).before args0 about1 = true := by decide +kernel
theorem w_applies : (headSpec (Jvm.Cond.code x code maxLocals ret :: tables_1) room_1).applies x e0.platform about1 = true :=
  (Spec.applies_iff w_frames).mpr ⟨w_running, w_runnable, w_alone, w_named, w_hears, w_ripe, w_room, w_tables⟩
theorem atStart : AtStart classFile x code maxLocals ret World_1 tables_1 room_1 Calls_1 rest_1 Pre_1 launch0 p0 e0 about1 theMethod args0 below0 :=
  ⟨lists_1, trivial, launch0.admits_env _ _ _, launch0.least_env, fairChoices_fair.cas, fairChoices_fair.clock, w_frames, w_args, w_heap, w_applies, trivial, w_rest, w_case⟩
end start1
theorem witness_1 : WitnessClaimed_1 := ⟨start1.p0, start1.e0, start1.about1, start1.theMethod, start1.args0, start1.below0, start1.atStart⟩
end Jvm.Pilot.@@N@@
