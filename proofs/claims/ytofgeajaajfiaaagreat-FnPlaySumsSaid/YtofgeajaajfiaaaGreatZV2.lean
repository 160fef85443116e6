/- A part of the proof: what the last text of the claim says leans on this one. -/
import Derived.Test.YtofgeajaajfiaaaGreatZV1
import Derived.Test.YtofgeajaajfiaaaGreatZA1
import Derived.Deep.Slices
import Derived.OpenShut
import Derived.Deep.Strs
set_option linter.unusedVariables false
set_option linter.unusedSimpArgs false
namespace Go.Proofs.YtofgeajaajfiaaaGreat
open Go.RowKit Go.Proofs.YtofgeajaajfiaaaGreatW.PrintWords Go.Proofs.YtofgeajaajfiaaaGreatW.PrintLast Go.Proofs.YtofgeajaajfiaaaGreatW.PrintMore
section
variable {ops : Array Oper} {rest : List Oper} {o : Oper} {a : Act} {Q : Exit → Act → World → Prop}
end
def Od (w : World) (b : Nat) (vd vm : Value) (ps qs : List Page) : Prop := ∃ okd okm : Nat → Prop,(∀ k,okd k → okm k → False) ∧ CB w b okd vd ps ∧ CB w b okm vm qs
theorem Gt {w : World} {b g : Nat} {ok : Nat → Prop} {v ud um ul : Value} {ps : List Page} {q : Eng} (h : CB w b ok v ps) (hq : Ac w g q ud um ul) (j : Nat) (u : Value) : CB (w.setCell ⟨g,j,none⟩ u) b ok v ps:=
 Kd.SK h hq (fun q hq => by rcases Ms q hq with rfl | rfl <;> decide) j u
theorem Od.set {w : World} {b g : Nat} {vd vm ud um ul : Value} {ps qs : List Page} {q : Eng} (h : Od w b vd vm ps qs) (hq : Ac w g q ud um ul) (j : Nat) (u : Value) : Od (w.setCell ⟨g,j,none⟩ u) b vd vm ps qs:=by
 obtain ⟨okd,okm,h1,h2,h3⟩:=h
 exact ⟨okd,okm,h1,Gt h2 hq j u,Gt h3 hq j u⟩
theorem Od.below {w w1 : World} {b : Nat} {vd vm : Value} {ps qs : List Page} (h : Od w b vd vm ps qs) (hb : Below w.heap.size w w1) : Od w1 b vd vm ps qs:=by
 obtain ⟨okd,okm,h1,h2,h3⟩:=h
 exact ⟨okd,okm,h1,Kd.BG h2 hb,Kd.BG h3 hb⟩
theorem Od.mk2 {w5 w6 : World} {b : Nat} {vd vm : Value} {ps qs : List Page} (hd : EH w5 b vd ps) (hm : EH w6 w5.heap.size vm qs) (hb : Below w5.heap.size w5 w6) (hle : b ≤ w5.heap.size) : Od w6 b vd vm ps qs:=
 ⟨fun k => True ∧ k < w5.heap.size,fun k => w5.heap.size ≤ k,fun k h1 h2 => by omega,Kd.Ee hd hb,Kd.Er (Kd.Dl (Kd.DY hm) (fun k hk => hk.2.1)) hle⟩
theorem AO.FQ {w : World} {b g : Nat} {vd vm vl ud um ul : Value} {e q : Eng} (h : AO w b vd vm vl e) (hq : Ac w g q ud um ul) (j : Nat) (u : Value) : AO (w.setCell ⟨g,j,none⟩ u) b vd vm vl e:=h.set hq (by decide) (by decide) (by decide) j u
theorem Ey.far {w : World} {g : Nat} {e : Eng} {vd vm vl : Value} (h : Ey w g e vd vm vl) {b : Nat} (hne : b ≠ g) (j : Nat) (u : Value) : Ey (w.setCell ⟨b,j,none⟩ u) g e vd vm vl:=(Below.heap_setCell w ⟨b,j,none⟩ u g (Ne.symm hne)).trans h
end Go.Proofs.YtofgeajaajfiaaaGreat
namespace Go.Proofs.YtofgeajaajfiaaaGreat
open Go.RowKit Go.Proofs.YtofgeajaajfiaaaGreatW.PrintWords Go.Proofs.YtofgeajaajfiaaaGreatW.PrintLast Go.Proofs.YtofgeajaajfiaaaGreatW.PrintMore
theorem AO.UJ {w w1 : World} {base N : Nat} {vm vl u : Value} {e : Eng} {q : Page} {p g n cap : Nat} {okd okm : Nat → Prop} (hap : ∀ k,okd k → okm k → False) (hm : CB w base (fun k => okm k ∧ k < N) vm e.mem) (hl : OwnRs w base vl e.log) (hu : AL w N u q.vals)
  (hd : CB w1 base (fun k => okd k ∨ some k = u.ownBlock) (.slice (some ⟨g,0,none⟩) n cap) (e.disk.set p q)) (hdg : okd g) (hg : w.grownBy w1 (some g)) (hty : ∃ cells,w.heap[g]? = some (.cells cells 41 (0,0))) : AO w1 base (.slice (some ⟨g,0,none⟩) n cap) vm vl { e with disk:=e.disk.set p q }:=by
 refine ⟨⟨fun k => okd k ∨ some k = u.ownBlock,fun k => okm k ∧ k < N,fun k h1 h2 => ?_,hd,Kd.UU hm hg (fun k hk e2 => ?_)⟩,?_⟩
 ·rcases h1 with h1 | h1
  ·exact hap k h1 h2.1
  ·have:=Ck hu k h1.symm;omega
 ·injection e2 with e2
  subst e2
  exact hap k hdg hk.1
 ·refine Kd.ED (Kd.Rf (e':=41) (v:=.slice (some ⟨g,0,none⟩) n cap) hl (fun k hk => ?_) (fun q hq => ?_) hg) (fun _ _ => trivial)
  ·simp only [Value.ownBlock,Option.some.injEq] at hk
   subst hk
   exact hty
  ·have : q = 73:=by simpa [Ca,Kd.iso,Kd.pair,Kd.int,Kd.scalar] using hq
   rw [this];decide
def YL (w0 w : World) (g : Nat) (vd vm vl : Value) (e : Eng) (x : Ending) (w' : World) : Prop:=(∃ v,x = .returned v) ∧ Ac w' g e vd vm vl ∧ AO w' w0.heap.size vd vm vl e ∧ Below w0.heap.size w0 w' ∧ Kept w w' (fun k => k = g ∨ some k = vd.ownBlock)
set_option maxRecDepth 100000 in
set_option maxHeartbeats 16000000 in
theorem NJ {w0 w : World} {g : Nat} {vd vm vl : Value} {e : Eng} {p : Nat} (hp : p < 5) (hgd : geo e.disk) (hgm : geo e.mem) (hb : Below w0.heap.size w0 w) (hg : w0.heap.size ≤ g) (hq : Ac w g e vd vm vl) (ho : AO w w0.heap.size vd vm vl e) : Calls Tryz.prog 60 #[ptr g, .int .i64 (p : Int)] w (YL w0 w g vd vm vl (D7 e p)):=by
 have hgd5:=hgd.1
 have hgm5:=hgm.1
 obtain ⟨okd,okm, -, -,hpm⟩:=ho.ex
 obtain ⟨gm,capm,rfl, -, -⟩:=Ci hpm (by omega)
 have hpl : p < e.mem.length:=by omega
 obtain ⟨A2,c2,p0,p1,p2,pC, -⟩:=E5 hpm p hpl
 have hp5i : (p : Int) < 5:=by omega
 have x1:=hq.c1
 have x3:=hq.c3
 have f3:=hq.frz 3
 have HQ:=As hq
 have HO:=As ho
 have HB:=As hb
 have HG:=As hg
 have HGD:=As hgd5
 have HGM:=As hgm
 clear hpm hq ho hb hg hgd p1 p2 pC
 go_enter Tryz.func60,Tryz.ntmps60
 go_wp2
 refine AQ (fun lx a wx => Un 16 (fun wx => Below w.heap.size w wx) lx a wx ∧ Ys 16 (fun wx => ∃ wy,Below w.heap.size w wy ∧ wx = wy.setCell ⟨g,3,none⟩ (.int .i64 (max e.safe (pg e.mem p).lsn))) lx a wx) 17 rfl (by kernel_rfl) (⟨fun _ => Af (Below.refl _ _),Hy⟩) (fun HT => ?_)
 refine AX [0,1,2,3,4,5,6,7,8,9,10,11,12,13,14,15] ?_
 iterate 16 (refine FL (v:=?_) 16 HT rfl (by kernel_rfl) (by kernel_rfl) rfl (kA (AA rfl) (C9 rfl)) (by rfl) (fun _ _ _ h => h) (fun lx ax wx hK hS => ?_) ?_;rotate_left;(have hbx:=hS.1 hK;clear hS;replace x1:=bc hbx x1;replace x3:=bc hbx x3;replace p0:=bc hbx p0;go_simp;with_reducible rfl);rotate_left;simp only [sc0,sc1])
 refine AV ?_
 refine AJ [16] (by kernel_rfl) (fun i hi wx hS => ?_)
 obtain rfl:=List.mem_singleton.1 hi
 clear hi
 have hbx:=hS.1 (by kernel_rfl)
 have q3:=bc hbx x3
 have f3':=(HQ.out.up hbx).frz 3
 refine Bv (w1:=wx.setCell ⟨g,3,none⟩ (.int .i64 (max e.safe (pg e.mem p).lsn))) rfl (by rfl) (by go_simp) ?_
 refine ⟨⟨fun h => (Ap (by kernel_rfl) h).elim,fun _ => ⟨wx,hbx,rfl⟩⟩,?_⟩
 clear hS hbx q3 f3'
 refine Ej (by kernel_rfl) (fun w3 hS => ?_)
 obtain ⟨wy,hbx,rfl⟩:=hS.2 (by kernel_rfl)
 obtain ⟨E,hE⟩ : ∃ E : Eng,{ e with safe:=max e.safe (pg e.mem p).lsn } = E:=⟨_,rfl⟩
 obtain ⟨w3,hw3⟩ : ∃ w3,wy.setCell ⟨g,3,none⟩ (.int .i64 (max e.safe (pg e.mem p).lsn)) = w3:=⟨_,rfl⟩
 have HQ3 : Aa (Ac w3 g E vd (.slice (some ⟨gm,0,none⟩) e.mem.length capm) vl):=⟨by rw [← hw3, ← hE];exact (HQ.out.up hbx).CK _⟩
 have ho3 : AO w3 w0.heap.size vd (.slice (some ⟨gm,0,none⟩) e.mem.length capm) vl e:=by rw [← hw3];exact (HO.out.below hbx).FQ (HQ.out.up hbx) 3 _
 have HO3 : Aa (AO w3 w0.heap.size vd (.slice (some ⟨gm,0,none⟩) e.mem.length capm) vl E):=⟨by rw [← hE];exact ⟨ho3.ex,ho3.l⟩⟩
 have HB3 : Aa (Below w0.heap.size w0 w3):=⟨by rw [← hw3];exact (bj HB.out hbx).setCell (p:=⟨g,3,none⟩) HG.out _⟩
 have HK3 : Aa (Kept w w3 (fun k => k = g ∨ some k = vd.ownBlock)):=⟨by rw [← hw3];exact (Kept.of_below hbx _).setCell (p:=⟨g,3,none⟩) (.inl (.inl rfl)) _⟩
 have HED : Aa (E.disk.length = 5):=⟨by rw [← hE];exact hgd5⟩
 have HEM : Aa (geo E.mem):=⟨by rw [← hE];exact HGM.out⟩
 have HEL : Aa (D7 e p = { E with disk:=E.disk.set p (pg E.mem p) }):=⟨by rw [← hE];rfl⟩
 have hlm : e.mem.length = E.mem.length:=by rw [← hE]
 have HLM:=As hlm
 rw [hw3]
 rw [hlm] at HQ3 HO3
 clear hS hbx x1 x3 f3 p0 ho3 hw3 hE HQ HO HB HGD HGM hgd5 hgm5 hgm hpl hlm
 obtain ⟨okd,okm,hap,hpd,hpm⟩:=HO3.out.ex
 have hpl : p < E.mem.length:=by rw [HEM.out.1];exact hp
 have hpd5 : p < E.disk.length:=by rw [HED.out];exact hp
 obtain ⟨gd,capd,rfl, -,hgdl⟩:=Ci hpd (by omega)
 obtain ⟨A2,c2,p0,p1,p2,pC, -⟩:=E5 hpm p hpl
 have x0:=HQ3.out.c0
 have x1:=HQ3.out.c1
 have hm5 : E.mem.length = 5:=HEM.out.1
 have hd5 : E.disk.length = 5:=HED.out
 have HPM:=As hpm
 have HPD:=As hpd
 have HAP:=As hap
 have HC:=As pC
 have HGL:=As hgdl
 have HV3:=As (show (pg E.mem p).vals.length ≤ 17592186044416 by rw [FZ HEM.out hp];omega)
 obtain ⟨q,hqq⟩ : ∃ q,pg E.mem p = q:=⟨_,rfl⟩
 rw [hqq] at p0 p1 p2 HC HV3
 have HEL2 : Aa (D7 e p = { E with disk:=E.disk.set p q }):=⟨by rw [HEL.out,hqq]⟩
 clear hap hpd hpm pC hgdl hqq HEL
 go_wp2
 refine AQ (fun lx a wx => Below w3.heap.size w3 wx ∧ Sl 12 32 (fun v wx => ∃ u,v = q.own u ∧ AL wx w3.heap.size u q.vals) lx a wx) 14 rfl (by kernel_rfl) (⟨Af (Below.refl _ _),Bb⟩) (fun HT => ?_)
 refine AX [0,1,2,3,4,5,6,7,8,9,10,11] ?_
 iterate 12 (refine AR (v:=?_) HT rfl (by kernel_rfl) rfl (kA Ae (Aj rfl rfl)) (by rfl) (fun _ _ _ h => h) (fun lx ax wx hS => ?_) ?_;rotate_left;(have hbx:=hS.1;clear hS;replace x0:=bc hbx x0;replace x1:=bc hbx x1;replace p0:=bc hbx p0;replace p1:=bc hbx p1;replace p2:=bc hbx p2;go_simp;with_reducible rfl);rotate_left;simp only [sc0,sc1])
 refine AV ?_
 refine C8 (i:=12) (f:=65) (args:=#[q.val A2 c2]) (fun v => ∃ u,v = q.own u) rfl (by kernel_rfl) rfl Tryz.func65 (by kernel_rfl) rfl rfl (by rfl) (by simp only [List.map_toArray,List.map_cons,List.map_nil];rfl) (fun wx hS => (F4 HV3.out hS.1 HC.out).mono (by rintro x w6 ⟨u,rfl,ho,hb⟩;exact ⟨_,rfl,⟨u,rfl⟩,bj hS.1 hb,fun _ => ⟨u,rfl,ho.lower hS.1.size⟩⟩)) (fun vx hg => ?_);simp only [sc0,sc1]
 obtain ⟨u,rfl⟩:=hg
 refine CR (i:=13) (v:=?_) HT rfl (by kernel_rfl) rfl (kA Ae (Aj rfl rfl)) (by rfl) (fun _ _ _ h => h) (fun lx ax wx hS => ?_) ?_;rotate_left;(go_simp;with_reducible rfl);rotate_left;simp only [sc0,sc1]
 refine BZ (i:=14) (by kernel_rfl) rfl (fun wx hS => ?_)
 obtain ⟨h5x,h2⟩:=hS
 obtain ⟨u1,hu1,hown⟩:=h2 (by kernel_rfl)
 have hu1 : q.own u = q.own u1:=hu1
 obtain rfl : u = u1:=by simpa using hu1
 refine EK (ok:=okd) (w0:=w0) (N:=w3.heap.size) (q:=q) p rfl (.tmp 33) (.tmp 32) rfl (by rfl) rfl rfl rfl hown HB3.out.size (Kd.Ee HPD.out h5x) hpd5 (bj HB3.out h5x) (fun w8 hO8 hB8 hg8 => ?_)
 refine BM (by kernel_rfl) ?_
 have hm8:=Kd.Ee HPM.out h5x
 have hty:=Kd.Fw (Kd.BG HPD.out h5x) gd (by simp [Value.ownBlock])
 have he8:=AO.UJ (e:=E) HAP.out hm8 (Kd.Ct HO3.out.l h5x) hown hO8 (Mr HPD.out gd (by simp [Value.ownBlock])) hg8 hty
 have hq8 : Ac w8 g { E with disk:=E.disk.set p q } (.slice (some ⟨gd,0,none⟩) E.disk.length capd) (.slice (some ⟨gm,0,none⟩) E.mem.length capm) vl:=(hg8.block g (by have:=HQ3.out.lt;have:=h5x.size;omega) (fun e2 => by injection e2 with e2;exact G6 HQ3.out HPD.out e2)).trans (HQ3.out.up h5x)
 have hk8:=Kept.Ib hg8 (HK3.out.below h5x) (fun k hk => .inl (.inr (by rw [← hk];rfl)))
 have HX8:=As (And.intro hB8 (And.intro he8 (And.intro hq8 hk8)))
 clear h5x h2 hu1 hown hO8 hB8 hg8 hm8 hty he8 hq8 hk8 x0 x1 p0 p1 p2
 go_wp2
 have h1:=HX8.out.2.2.1
 have h2:=HX8.out.2.1
 have h4:=HX8.out.2.2.2
 rw [HED.out, ← HLM.out] at h1 h2
 exact bodyPost_ret (v:=.tuple #[]) (by simp [results,Tryz.results60,go_sem]) rfl ⟨⟨_,rfl⟩,by rw [HEL2.out];exact ⟨h1,h2,HX8.out.1,h4⟩⟩
theorem VF {r : Rec} (h : CZ r = true) (hc : Cw r.kind = true) : 0 ≤ r.page ∧ r.page < 5:=by
 have:=Im h hc
 omega
set_option maxRecDepth 100000 in
set_option maxHeartbeats 16000000 in
theorem Oy {w0 w : World} {g : Nat} {e : Eng} {tx : Int} (hs : JN e tx) (h : BR w0 w g e) : Calls Tryz.prog 136 #[ptr g, .int .i64 tx] w (IK w0 g (Be e tx)):=by
 obtain ⟨⟨vd,vm,vl,hq,ho⟩,hb,hg⟩:=h
 obtain ⟨Ad,cd,Am,cm,Al,cl,rfl,rfl,rfl, -,hrd⟩:=ho.reads
 have hlg:=Bo hs.log
 have hl1:=hs.Xr
 obtain ⟨ln,hln⟩ : ∃ ln : Nat,Ai e.log tx e.log.length = ln:=⟨_,rfl⟩
 have hlnl : ln ≤ e.log.length:=by rw [← hln];exact Bc _ _ _
 obtain ⟨k,hk⟩ : ∃ k : Nat,Br e.log ln = k:=⟨_,rfl⟩
 have hkl : k ≤ e.log.length:=by rw [← hk];exact Nat.le_trans I5 hlnl
 have HS:=As hs
 have HQ:=As hq
 have HO:=As ho
 have HB:=As hb
 have HG:=As hg
 have HC:=As hrd
 have HLN:=As hln
 have HLL:=As hlnl
 have HK:=As hk
 have HNX : Aa (Dn e tx = if k = 0 then ⟨5,tx,0,0,0,0,0,0⟩ else Bz (rc e.log (k - 1)) 0):=⟨by unfold Dn;rw [show lastT e tx = ln from hln,hk]⟩
 have x2:=hq.c2
 clear hs hq ho hb hg hrd hln hlnl hk hlg
 have hcu : ∀ wx,Below w.heap.size w wx → Calls Tryz.prog 153 #[.slice Al e.log.length cl, .int .i64 ln] wx fun x w' => x = .returned (.int .i64 k) ∧ Below w.heap.size w w':=fun wx hb => by
  have:=Jv (c:=cl) HLL.out hb HC.out.l HS.out.log
  rw [HK.out] at this
  exact this
 have HCU:=As hcu
 clear hcu
 go_enter Tryz.func136,Tryz.ntmps136
 go_wp2
 refine Ba (fun w' => Below w.heap.size w w') rfl rfl (by kernel_rfl) (Af (Below.refl _ _)) (fun HT => ?_)
 repeat (first
  | (refine BO (fun wx hS => ?_))
  | ((with_reducible refine Bh (f:=82) rfl ?_);refine Bj (v:=.int .i64 ln) (args:=#[.slice Al e.log.length cl, .int .i64 tx]) HT rfl Tryz.func82 (by kernel_rfl) rfl rfl (by rfl) (fun _ _ _ h => h) (by simp only [List.map_toArray,List.map_cons,List.map_nil];rfl) (fun wx hS => (GZ (c:=cl) HLN.out hS HC.out.l).mono fun _ _ h => ⟨h.1,bj hS h.2⟩) ?_;simp only [sc0,sc1])
  | ((with_reducible refine Bh (f:=153) rfl ?_);refine Bj (v:=.int .i64 k) (args:=#[.slice Al e.log.length cl, .int .i64 ln]) HT rfl Tryz.func153 (by kernel_rfl) rfl rfl (by rfl) (fun _ _ _ h => h) (by simp only [List.map_toArray,List.map_cons,List.map_nil];rfl) (fun wx hS => HCU.out wx hS) ?_;simp only [sc0,sc1])
  | (refine Bq HT rfl (by rfl) (fun _ _ _ h => h) ?_;simp only [sc0,sc1])
  | (refine BN (v:=?_) HT rfl (by rfl) (fun _ _ _ h => h) (fun wx hS => ?_) ?_;rotate_left;(have x2:=bc hS x2;go_simp;with_reducible rfl);rotate_left;simp only [sc0,sc1]))
 have HX:=As hS
 have hq3:=HQ.out.up hS
 have x2:=hq3.c2
 clear hS hq3
 rcases k with _ | k
 ·have hE : Be e tx = { e with log:=e.log ++ [DN ⟨5,tx,0,0,0,0,0,0⟩ (Ai e.log tx e.log.length)] }:=by
   unfold Be
   rw [HNX.out,if_pos rfl]
   unfold Eng.app
   rw [if_neg (by simp [Cw])]
   rfl
  have HE:=As hE
  clear hE
  go_wp2_with (go_at_call 61;refine (Lc ⟨5,tx,0,0,0,0,0,0⟩ (by omega) (bj HB.out HX.out) HG.out (HQ.out.up HX.out) (HO.out.below HX.out)).mono ?_;rintro x w4 ⟨vl2,rfl,hq4,ho4,hb4, -⟩;have HX4:=As (And.intro hq4 (And.intro ho4 hb4));clear hq4 ho4 hb4)
  exact bodyPost_ret (v:=.tuple #[]) (by simp [results,Tryz.results136,go_sem]) rfl ⟨⟨_,rfl⟩,by rw [HE.out];exact ⟨⟨_,_,_,HX4.out.1,HX4.out.2.1⟩,HX4.out.2.2,HG.out⟩⟩
 ·have hkk : k < e.log.length:=by omega
  obtain ⟨ad,rfl,QR⟩:=CS (HC.out.l) k hkk
  obtain ⟨z0,z1,z2,z3,z4,z5,z6,z7⟩:=QR.up HX.out
  obtain ⟨rb,hrb⟩ : ∃ rb,Bz (rc e.log k) 0 = rb:=⟨_,rfl⟩
  have hnx : Dn e tx = rb:=by rw [HNX.out,if_neg (by omega),Nat.add_sub_cancel,hrb]
  have hkd : Cw rb.kind = true:=by rw [← hrb];rfl
  have hst : CU e tx = DN rb (Ai e.log rb.tx e.log.length):=by unfold CU;rw [hnx];rfl
  have hmay:=HS.out.may (by rw [hst];exact hkd)
  rw [hst] at hmay
  have hpr : 0 ≤ rb.page ∧ rb.page < 5:=by
   have h1:=hmay
   simp only [FR,Bool.and_eq_true] at h1
   exact VF (r:=DN rb (Ai e.log rb.tx e.log.length)) h1.2.1 hkd
  have hE : Be e tx = e.app rb:=by unfold Be;rw [hnx]
  have HE:=As hE
  have HRB:=As hrb
  have HMAY:=As hmay
  have HPR:=As hpr
  have hwr0 : IntKind.i64.wrap (k : Int) = (k : Int):=by simp (disch:=omega) only [IntWalk.i64_in]
  have hwr1 : IntKind.i64.wrap ((k : Int) + 1 - 1) = (k : Int):=by rw [show ((k : Int) + 1 - 1) = (k : Int) by omega];exact hwr0
  have hwr2 : IntKind.i64.wrap (((k + 1 : Nat) : Int) - 1) = (k : Int):=by rw [show (((k + 1 : Nat) : Int) - 1) = (k : Int) by omega];exact hwr0
  have hEg:=As (BR.up ⟨⟨_,_,_,HQ.out,HO.out⟩,HB.out,HG.out⟩ HX.out)
  clear hE hrb hmay hpr QR hnx hkd hst
  go_wp2_with (first
   | (go_at_call 149;refine (Pn (rc e.log k) 0 _).mono ?_;rw [HRB.out];rintro x w4 ⟨rfl,hb4⟩;have HG4:=As (hEg.out.up hb4);clear hb4)
   | (go_at_call 54;refine (KL rb (by omega) HS.out.geo HPR.out HMAY.out HG4.out).mono ?_;rintro x w5 ⟨⟨v,rfl⟩,hg5⟩;have HG5:=As hg5;clear hg5))
  exact bodyPost_ret (v:=.tuple #[]) (by simp [results,Tryz.results136,go_sem]) rfl ⟨⟨_,rfl⟩,by rw [HE.out];exact HG5.out⟩
theorem OL {w : World} {b g : Nat} {v ud um ul : Value} {l : List Rec} {q : Eng} (h : OwnRs w b v l) (hq : Ac w g q ud um ul) (j : Nat) (u : Value) : OwnRs (w.setCell ⟨g,j,none⟩ u) b v l:=
 Kd.XQ h hq (fun q hq => by have : q = 73:=(by simpa [Ca,Kd.iso,Kd.pair,Kd.int,Kd.scalar] using hq);rw [this];decide) j u
theorem AO.Ww {w4 w5 : World} {b b2 : Nat} {okd : Nat → Prop} {vd vm vl : Value} {ps qs : List Page} {l : List Rec} {s : Int} {d : Bool} (hd : CB w4 b okd vd ps) (hm : EH w5 w4.heap.size vm qs) (hb : Below w4.heap.size w4 w5) (hl : OwnRs w4 b2 vl l) (hle : b ≤ w4.heap.size) (hb2 : b ≤ b2) : AO w5 b vd vm vl ⟨ps,qs,l,s,d⟩:=
 ⟨⟨fun k => okd k ∧ k < w4.heap.size,fun k => w4.heap.size ≤ k,fun k h1 h2 => by omega,Kd.Ee hd hb,Kd.Er (Kd.Dl (Kd.DY hm) (fun k hk => hk.2.1)) hle⟩,Kd.Hf (Kd.Ct hl hb) hb2⟩
section
variable {w w1 : World} {b g n cap : Nat} {ok : Nat → Prop} {ps : List Page}
theorem Wn (h : CB w b ok (.slice (some ⟨g,0,none⟩) n cap) ps) {i : Nat} (hi : i < n) :
  ∃ (oki : Nat → Prop) (v : Value),(∀ k,oki k → ok k ∧ k ≠ g) ∧ ok g ∧ RI w b oki v (pg ps i).vals ∧ (w.cell? ⟨g,i * 3,none⟩ = some (.int .i64 (pg ps i).lsn) ∧ w.cell? ⟨g,i * 3 + 1,none⟩ = some (.int .i64 (pg ps i).owner) ∧ w.cell? ⟨g,i * 3 + 2,none⟩ = some v) ∧ (∀ j,w.frozen? ⟨g,i * 3 + j,none⟩ = false) ∧
   Kd.H Dw 41 w b ok (.slice (some ⟨g,0,none⟩) n cap) ps (i : Int) oki [.int .i64 (pg ps i).lsn, .int .i64 (pg ps i).owner,v]:=by
 obtain ⟨oki,c,hcl,hM,hcc,hfr,hok,hH⟩:=Kd.Yj h z0 (i : Int) (by omega) (by omega)
 rw [Int.toNat_natCast] at hM hcc hfr
 obtain ⟨v,rfl,hv⟩:=O4 hM
 have hg : ok g:=by
  obtain ⟨f,h0,_⟩:=h
  exact h0 g (by simp [Value.ownBlock])
 exact ⟨oki,v,hok,hg,hv,⟨hcc 0 _ rfl,hcc 1 _ rfl,hcc 2 _ rfl⟩,fun j => hfr j,hH⟩
theorem Y4 (h : CB w b ok (.slice (some ⟨g,0,none⟩) n cap) ps) {i : Nat} (hi : i < n) (x : Int) : CB (w.setCell ⟨g,i * 3,none⟩ (.int .i64 x)) b ok (.slice (some ⟨g,0,none⟩) n cap) (ps.set i { pg ps i with lsn:=x }):=by
 obtain ⟨oki,v,hok,hg,hv, -, -,hH⟩:=Wn h hi
 have:=(Kd.Yg (seg := [.int .i64 x]) (j:=0) (x':={ pg ps i with lsn:=x }) (okp:=oki) hH (by omega) (by omega) (by show 0 + 1 ≤ 3;decide) (Ji w b oki { pg ps i with lsn:=x } hv) (fun _ hk => hk)).1
 rw [Int.toNat_natCast] at this
 exact this
end
end Go.Proofs.YtofgeajaajfiaaaGreat
namespace Go.Proofs.YtofgeajaajfiaaaGreat
open Go.RowKit Go.Proofs.YtofgeajaajfiaaaGreatW.PrintWords Go.Proofs.YtofgeajaajfiaaaGreatW.PrintLast Go.Proofs.YtofgeajaajfiaaaGreatW.PrintMore
theorem DC.d' {w : World} {e : Eng} {Ad Am Al : Option Addr} (h : DC w e Ad Am Al) : Kd.C Dw w Ad e.disk.length e.disk:=h.d
structure Ga (w : World) (b : Nat) (ok : Nat → Prop) (vd vm vl : Value) (e : Eng) : Prop where
 ex : ∃ okd okm : Nat → Prop,(∀ k,okd k → okm k → False) ∧ (∀ k,okd k → ok k) ∧ (∀ k,okm k → ok k) ∧ CB w b okd vd e.disk ∧ CB w b okm vm e.mem
 l : OwnRs w b vl e.log
 lk : ∀ k,vl.ownBlock = some k → ok k
section
variable {w w1 : World} {b : Nat} {ok : Nat → Prop} {vd vm vl : Value} {e : Eng}
theorem Ga.E (h : Ga w b ok vd vm vl e) : AO w b vd vm vl e:=by
 obtain ⟨okd,okm,h1, -, -,h4,h5⟩:=h.ex
 exact ⟨⟨okd,okm,h1,h4,h5⟩,h.l⟩
theorem AO.toK (h : AO w b vd vm vl e) : Ga w b (fun k => b ≤ k ∧ k < w.heap.size) vd vm vl e:=by
 obtain ⟨⟨okd,okm,h1,h2,h3⟩,h4⟩:=h
 exact ⟨⟨fun k => okd k ∧ (b ≤ k ∧ k < w.heap.size),fun k => okm k ∧ (b ≤ k ∧ k < w.heap.size),fun k ha hb => h1 k ha.1 hb.1,fun k hk => hk.2,fun k hk => hk.2,Kd.Dl (Kd.DY h2) (fun k hk => ⟨hk.1,hk.2.1,hk.2.2.1⟩),Kd.Dl (Kd.DY h3) (fun k hk => ⟨hk.1,hk.2.1,hk.2.2.1⟩)⟩,h4,fun k hk => ⟨Kd.U4 h4 k hk,Kd.VN h4 k hk⟩⟩
theorem Ga.kept {S : Nat → Prop} (h : Ga w b ok vd vm vl e) (hk : Kept w w1 S) (hne : ∀ k,ok k → ¬ S k) : Ga w1 b ok vd vm vl e:=by
 obtain ⟨⟨okd,okm,h1,h2,h3,h4,h5⟩,hl,hlk⟩:=h
 exact ⟨⟨okd,okm,h1,h2,h3,Kd.IY h4 hk (fun k hx => hne k (h2 k hx)),Kd.IY h5 hk (fun k hx => hne k (h3 k hx))⟩,Kd.ED (Kd.M9 (Kd.Oo rfl hl) hk (fun k hx => hne k (hlk k hx.symm))) (fun _ _ => trivial),hlk⟩
theorem Ga.below (h : Ga w b ok vd vm vl e) (hb : Below w.heap.size w w1) : Ga w1 b ok vd vm vl e:=h.kept (S:=fun _ => False) (Kept.of_below hb _) (fun _ _ h => h)
theorem Ga.lower {b' : Nat} (h : Ga w b ok vd vm vl e) (hb : b' ≤ b) : Ga w b' ok vd vm vl e:=by
 obtain ⟨⟨okd,okm,h1,h2,h3,h4,h5⟩,hl,hlk⟩:=h
 exact ⟨⟨okd,okm,h1,h2,h3,Kd.Er h4 hb,Kd.Er h5 hb⟩,Kd.Hf hl hb,hlk⟩
theorem Ga.mono {ok' : Nat → Prop} (h : Ga w b ok vd vm vl e) (hok : ∀ k,ok k → ok' k) : Ga w b ok' vd vm vl e:=by
 obtain ⟨⟨okd,okm,h1,h2,h3,h4,h5⟩,hl,hlk⟩:=h
 exact ⟨⟨okd,okm,h1,fun k hk => hok k (h2 k hk),fun k hk => hok k (h3 k hk),h4,h5⟩,hl,fun k hk => hok k (hlk k hk)⟩
theorem Ga.C {A B C : Option Addr} {n m l a b' c : Nat} (h : Ga w b ok (.slice A n a) (.slice B m b') (.slice C l c) e) : DC w e A B C:=by
 obtain ⟨A',a',B',b2,C',c',h1,h2,h3, -,hc⟩:=h.E.reads
 injection h1 with h1
 injection h2 with h2
 injection h3 with h3
 subst h1 h2 h3
 exact hc
theorem DC.kept {Ad Am Al : Option Addr} {cd cm cl : Nat} {S : Nat → Prop} (h : Ga w b ok (.slice Ad e.disk.length cd) (.slice Am e.mem.length cm) (.slice Al e.log.length cl) e) (hk : Kept w w1 S) (hne : ∀ k,ok k → ¬ S k) : DC w1 e Ad Am Al:=by
 obtain ⟨A,a,B,b',C,c,h1,h2,h3, -,hc⟩:=(h.kept hk hne).E.reads
 injection h1 with h1
 injection h2 with h2
 injection h3 with h3
 subst h1 h2 h3
 exact hc
end
end Go.Proofs.YtofgeajaajfiaaaGreat
namespace Go.Proofs.YtofgeajaajfiaaaGreat
open Go.RowKit Go.Proofs.YtofgeajaajfiaaaGreatW.PrintWords Go.Proofs.YtofgeajaajfiaaaGreatW.PrintLast Go.Proofs.YtofgeajaajfiaaaGreatW.PrintMore
theorem Jz {w w1 : World} {b : Nat} {vd vm vl v : Value} {e : Eng} {qs : List Page} (h : AO w b vd vm vl e) (hb : Below w.heap.size w w1) (hv : EH w1 w.heap.size v qs) (hle : b ≤ w.heap.size) : AO w1 b vd v vl { e with mem:=qs }:=by
 obtain ⟨⟨okd,okm, -,h2, -⟩,h4⟩:=h
 exact ⟨⟨fun k => okd k ∧ k < w.heap.size,fun k => w.heap.size ≤ k,fun k h1 h2 => by omega,Kd.Ee h2 hb,Kd.Er (Kd.Dl (Kd.DY hv) (fun k hk => hk.2.1)) hle⟩,Kd.Ct h4 hb⟩
theorem AO.reads' {w : World} {b : Nat} {A B C : Option Addr} {n m l a b' c : Nat} {e : Eng} (h : AO w b (.slice A n a) (.slice B m b') (.slice C l c) e) : DC w e A B C:=by
 obtain ⟨A',a',B',b2,C',c',h1,h2,h3, -,hc⟩:=h.reads
 injection h1 with h1
 injection h2 with h2
 injection h3 with h3
 subst h1 h2 h3
 exact hc
theorem Vt {x : Eng} (h : Ay x = 0) : BX x.log 3 = []:=by
 obtain ⟨h1,h2,h3⟩:=Gz h
 rw [Gv,if_pos h1,if_pos h2,if_pos h3]
 rfl
theorem Vs {x : Eng} (h : Ay x ≠ 0) : ∃ l,BX x.log 3 = Ay x :: l:=by
 rw [Gv]
 by_cases h1 : lastT x 1 = 0
 ·by_cases h2 : lastT x 2 = 0
  ·by_cases h3 : lastT x 3 = 0
   ·exact absurd (show Ay x = 0 by unfold Ay;rw [if_neg (by simpa using h1),if_neg (by simpa using h2),if_neg (by simpa using h3)]) h
   ·have hf : Ay x = 3:=by unfold Ay;rw [if_neg (by simpa using h1),if_neg (by simpa using h2),if_pos h3]
    exact ⟨[],by rw [if_pos h1,if_pos h2,if_neg h3,hf];rfl⟩
  ·have hf : Ay x = 2:=by unfold Ay;rw [if_neg (by simpa using h1),if_pos h2]
   exact ⟨_,by rw [if_pos h1,if_neg h2,hf];rfl⟩
 ·have hf : Ay x = 1:=by unfold Ay;rw [if_pos h1]
  exact ⟨_,by rw [if_neg h1,hf];rfl⟩
theorem OM {x : Eng} (h : Ay x = 0) : ∀ k,Df k x = x
 | 0 => rfl
 | k + 1 => by rw [Df,if_pos h]
theorem Km : ∀ (k : Nat) (x : Eng),(Df k x).disk = x.disk ∧ (Df k x).safe = x.safe ∧ (Df k x).down = x.down
 | 0,x => ⟨rfl,rfl,rfl⟩
 | k + 1,x => by
  rw [Df]
  split
  ·exact ⟨rfl,rfl,rfl⟩
  ·exact Km k (Be x (Ay x))
def Fz (e : Eng) : Eng:={ e with mem:=Cr e.disk e.log e.log.length }
def upE (x : Eng) : Eng:=if Ay x = 0 then { x with down:=false } else { x with mem:=x.disk }
def upR (e : Eng) (steps : Int) : Eng × Bool:=if eOk e = true ∧ 0 ≤ steps then (if e.down = true then (upE (Df steps.toNat (Fz e)),decide (Ay (Df steps.toNat (Fz e)) = 0)) else (e,false)) else (zE,false)
theorem Rv (e : Eng) (n : Nat) : Mk e n = upE (Df n (Fz e)):=rfl
theorem FH.room' {x : Eng} (h : FH x) : x.log.length + Bu x.log x.log.length ≤ 150:=R8.room h
theorem FH.all : ∀ (k : Nat) (x : Eng),FH x → FH (Df k x)
 | 0,x,h => h
 | k + 1,x,h => by
  rw [Df]
  split
  ·exact h
  ·rename_i h0
   exact FH.all k _ (h.step h0).2.1
set_option maxRecDepth 100000 in
set_option maxHeartbeats 6000000 in
theorem Rc {w0 w : World} {e : Eng} {Ad Am Al : Option Addr} {cd cm cl : Nat} (steps : Int) (hcl : e.log.length ≤ cl) (hb : Below w0.heap.size w0 w) (hr : DC w0 e Ad Am Al) : Calls Tryz.prog 94 #[e.val Ad Am Al cd cm cl, .int .i64 steps] w (D9 w (upR e steps).1 (upR e steps).2):=by
 have HR:=As (hr.up hb)
 clear hr hb
 obtain ⟨w1,hw1⟩ : ∃ w1,w.alloc (e.obox (.slice Ad e.disk.length cd) (.slice Am e.mem.length cm) (.slice Al e.log.length cl)) = w1:=⟨_,rfl⟩
 obtain ⟨w2,hw2⟩ : ∃ w2,w1.alloc (zE.obox (.slice none 0 0) (.slice none 0 0) (.slice none 0 0)) = w2:=⟨_,rfl⟩
 have hz1 : w1.heap.size = w.heap.size + 1:=by rw [← hw1];exact BJ _ _
 have hz2 : w2.heap.size = w.heap.size + 2:=by rw [← hw2,BJ,hz1]
 have hb12 : Below w1.heap.size w1 w2:=by rw [← hw2];exact Ab (Below.refl _ _) _
 have HB2 : Aa (Below w.heap.size w w2):=⟨by rw [← hw2, ← hw1];exact Ab (Ab (Below.refl _ _) _) _⟩
 have HQ2 : Aa (Ac w2 w.heap.size e (.slice Ad e.disk.length cd) (.slice Am e.mem.length cm) (.slice Al e.log.length cl)):=⟨Ac.up (by rw [← hw1];exact Ac.mk1 _ _ _ _ _) hb12⟩
 have HP2 : Aa (Ac w2 (w.heap.size + 1) zE (.slice none 0 0) (.slice none 0 0) (.slice none 0 0)):=⟨by rw [← hw2, ← hz1];exact Ac.mk1 _ _ _ _ _⟩
 have HW2 : Aa ((w.alloc (e.obox (.slice Ad e.disk.length cd) (.slice Am e.mem.length cm) (.slice Al e.log.length cl))).alloc (zE.obox (.slice none 0 0) (.slice none 0 0) (.slice none 0 0)) = w2):=⟨by rw [hw1,hw2]⟩
 have HZ2:=As hz2
 clear hw1 hw2 hz1 hz2 hb12
 have x0:=HQ2.out.c0
 have x1:=HQ2.out.c1
 have x2:=HQ2.out.c2
 have x3:=HQ2.out.c3
 have x4:=HQ2.out.c4
 cases hv : eOk e
 ·have HV:=As hv
  have hE : upR e steps = (zE,false):=by rw [upR,if_neg (by rw [hv];simp)]
  rw [hE]
  clear hv hE
  go_enter Tryz.func94,Tryz.ntmps94
  go_wp2_with (go_at_call 43;rw [show (w.alloc (Obj.cells #[Value.slice Ad e.disk.length cd,Value.slice Am e.mem.length cm,Value.slice Al e.log.length cl,Value.int IntKind.i64 e.safe,Value.bool e.down] 28)).alloc (Obj.cells #[Value.slice none 0 0,Value.slice none 0 0,Value.slice none 0 0,Value.int IntKind.i64 0,Value.bool false] 28) = w2 from HW2.out];refine (Aw (cd:=cd) (cm:=cm) HV.out hcl HB2.out HR.out).mono ?_;rintro x w3 ⟨rfl,hb3⟩;have HB3:=As (bj HB2.out hb3);have HP3:=As (HP2.out.up hb3);have y0:=HP3.out.c0;have y1:=HP3.out.c1;have y2:=HP3.out.c2;have y3:=HP3.out.c3;have y4:=HP3.out.c4;have f0:=HP3.out.frz 0;have f1:=HP3.out.frz 1;have f2:=HP3.out.frz 2;have f3:=HP3.out.frz 3;have f4:=HP3.out.frz 4;clear hb3)
  obtain ⟨z0,z1,z2,z3,z4⟩:=HP3.out.empty
  exact bodyPost_ret (v:=.tuple #[zEv, .bool false]) (by simp [results,Tryz.results94,go_sem,z0,z1,z2,z3,z4]) rfl ⟨_,_,_,rfl,IW _ _,Ah (g:=w.heap.size + 1) HB3.out (by omega) zE _ _ _⟩
 ·have HV:=As hv
  have HF:=As (Fv.1 hv)
  clear hv
  rcases lts steps 0 with ⟨e1,b1,c1⟩ | ⟨e1,b1,c1⟩
  ·have hE : upR e steps = (zE,false):=by rw [upR,if_neg (by have:=e1.out;omega)]
   rw [hE]
   clear hE
   have hl0:=e1.out
   go_enter Tryz.func94,Tryz.ntmps94
   go_wp2_with (go_at_call 43;rw [show (w.alloc (Obj.cells #[Value.slice Ad e.disk.length cd,Value.slice Am e.mem.length cm,Value.slice Al e.log.length cl,Value.int IntKind.i64 e.safe,Value.bool e.down] 28)).alloc (Obj.cells #[Value.slice none 0 0,Value.slice none 0 0,Value.slice none 0 0,Value.int IntKind.i64 0,Value.bool false] 28) = w2 from HW2.out];refine (Aw (cd:=cd) (cm:=cm) HV.out hcl HB2.out HR.out).mono ?_;rintro x w3 ⟨rfl,hb3⟩;have HB3:=As (bj HB2.out hb3);have HP3:=As (HP2.out.up hb3);have y0:=HP3.out.c0;have y1:=HP3.out.c1;have y2:=HP3.out.c2;have y3:=HP3.out.c3;have y4:=HP3.out.c4;have f0:=HP3.out.frz 0;have f1:=HP3.out.frz 1;have f2:=HP3.out.frz 2;have f3:=HP3.out.frz 3;have f4:=HP3.out.frz 4;clear hb3)
   obtain ⟨z0,z1,z2,z3,z4⟩:=HP3.out.empty
   exact bodyPost_ret (v:=.tuple #[zEv, .bool false]) (by simp [results,Tryz.results94,go_sem,z0,z1,z2,z3,z4]) rfl ⟨_,_,_,rfl,IW _ _,Ah (g:=w.heap.size + 1) HB3.out (by omega) zE _ _ _⟩
  ·obtain ⟨n,hn⟩ : ∃ n : Nat,steps = (n : Int):=⟨steps.toNat,by have:=e1.out;omega⟩
   subst hn
   have HLG:=As (Bo HF.out.log)
   have hn0 : (0 : Int) ≤ (n : Int):=by omega
   cases hdn : e.down
   ·have hE : upR e (n : Int) = (e,false):=by rw [upR,if_pos ⟨HV.out,e1.out⟩,if_neg (by rw [hdn];simp)]
    rw [hE]
    have HDN:=As hdn
    clear hE hdn
    go_enter Tryz.func94,Tryz.ntmps94
    go_wp2_with (first
     | (go_at_call 43;rw [show (w.alloc (Obj.cells #[Value.slice Ad e.disk.length cd,Value.slice Am e.mem.length cm,Value.slice Al e.log.length cl,Value.int IntKind.i64 e.safe,Value.bool e.down] 28)).alloc (Obj.cells #[Value.slice none 0 0,Value.slice none 0 0,Value.slice none 0 0,Value.int IntKind.i64 0,Value.bool false] 28) = w2 from HW2.out];refine (Aw (cd:=cd) (cm:=cm) HV.out hcl HB2.out HR.out).mono ?_;rintro x w3 ⟨rfl,hb3⟩;have HX3:=As hb3;replace x0:=bc hb3 x0;replace x1:=bc hb3 x1;replace x2:=bc hb3 x2;replace x3:=bc hb3 x3;replace x4:=bc hb3 x4;clear hb3)
     | (go_at_call 45;refine (AP (cd:=cd) (cm:=cm) (cl:=cl) (Ak HF.out.disk) (Ak HF.out.mem) HLG.out (bj HB2.out HX3.out) HR.out).mono ?_;rintro x w4 ⟨vd,vm,vl,rfl,ho,hb4⟩;obtain ⟨Bd,dd,Bm,dm,Bl,dl,rfl,rfl,rfl, -, -⟩:=ho.reads;have HO4:=As ho;have HX4:=As (bj HX3.out hb4);have HN4:=As (Nat.le_trans HX3.out.size (Nat.le_refl _));clear ho hb4 x0 x1 x2 x3 x4)
     | (refine Ag (vd:=.slice Bd e.disk.length dd) (vm:=.slice Bm e.mem.length dm) (vl:=.slice Bl e.log.length dl) e ?_;intro w5 hb5 _ hq5;have HO5:=As (HO4.out.below hb5);have HX5:=As (bj HX4.out hb5);have x0:=hq5.c0;have x1:=hq5.c1;have x2:=hq5.c2;have x3:=hq5.c3;have x4:=hq5.c4;rw [HDN.out] at x4;have HP5:=As (HP2.out.up HX5.out);have y0:=HP5.out.c0;have y1:=HP5.out.c1;have y2:=HP5.out.c2;have y3:=HP5.out.c3;have y4:=HP5.out.c4;have f0:=HP5.out.frz 0;have f1:=HP5.out.frz 1;have f2:=HP5.out.frz 2;have f3:=HP5.out.frz 3;have f4:=HP5.out.frz 4;clear hb5 hq5))
    have hz:=HZ2.out
    have hn3:=HX3.out.size
    have hy:=HP5.out.Ao ⟨e.disk,e.mem,e.log,e.safe,false⟩ (.slice Bd e.disk.length dd) (.slice Bm e.mem.length dm) (.slice Bl e.log.length dl)
    have h1:=HO5.out.Ao (f:=⟨e.disk,e.mem,e.log,e.safe,false⟩) (xd:=.slice Bd e.disk.length dd) (xm:=.slice Bm e.mem.length dm) (xl:=.slice Bl e.log.length dl) HP5.out
    have h2:=Ah (g:=w.heap.size + 1) (bj HB2.out HX5.out) (by omega) ⟨e.disk,e.mem,e.log,e.safe,false⟩ (.slice Bd e.disk.length dd) (.slice Bm e.mem.length dm) (.slice Bl e.log.length dl)
    have z0:=hy.c0
    have z1:=hy.c1
    have z2:=hy.c2
    have z3:=hy.c3
    have z4:=hy.c4
    simp only at z0 z1 z2 z3 z4
    exact bodyPost_ret (v:=.tuple #[.agg #[.slice Bd e.disk.length dd, .slice Bm e.mem.length dm, .slice Bl e.log.length dl, .int .i64 e.safe, .bool false], .bool false]) (by simp [results,Tryz.results94,go_sem,z0,z1,z2,z3,z4]) rfl ⟨.slice Bd e.disk.length dd, .slice Bm e.mem.length dm, .slice Bl e.log.length dl,by unfold Eng.ag;rw [HDN.out],h1.lower (by omega),h2⟩
   ·obtain ⟨X,hX⟩ : ∃ X,Df n (Fz e) = X:=⟨_,rfl⟩
    have hE : upR e (n : Int) = (upE X,decide (Ay X = 0)):=by rw [upR,if_pos ⟨HV.out,e1.out⟩,if_pos hdn,Int.toNat_natCast,hX]
    rw [hE]
    obtain ⟨R,hR⟩ : ∃ R,Cr e.disk e.log e.log.length = R:=⟨_,rfl⟩
    have HRR:=As hR
    have hst : Fz e = { e with mem:=R }:=by rw [Fz,hR]
    have hro : FH { e with mem:=R }:=by rw [← hst];exact HF.out.rise
    have HRO:=As hro
    have HRX:=As (show Df n { e with mem:=R } = X by rw [← hst];exact hX)
    have HDN:=As hdn
    have HGD:=As (Ak HF.out.disk)
    clear hE hdn hX hR hst hro
    go_enter Tryz.func94,Tryz.ntmps94
    go_wp2_with (first
     | (go_at_call 43;rw [show (w.alloc (Obj.cells #[Value.slice Ad e.disk.length cd,Value.slice Am e.mem.length cm,Value.slice Al e.log.length cl,Value.int IntKind.i64 e.safe,Value.bool e.down] 28)).alloc (Obj.cells #[Value.slice none 0 0,Value.slice none 0 0,Value.slice none 0 0,Value.int IntKind.i64 0,Value.bool false] 28) = w2 from HW2.out];refine (Aw (cd:=cd) (cm:=cm) HV.out hcl HB2.out HR.out).mono ?_;rintro x w3 ⟨rfl,hb3⟩;have HX3:=As hb3;replace x0:=bc hb3 x0;replace x1:=bc hb3 x1;replace x2:=bc hb3 x2;replace x3:=bc hb3 x3;replace x4:=bc hb3 x4;clear hb3)
     | (go_at_call 45;refine (AP (cd:=cd) (cm:=cm) (cl:=cl) (Ak HF.out.disk) (Ak HF.out.mem) HLG.out (bj HB2.out HX3.out) HR.out).mono ?_;rintro x w4 ⟨vd,vm,vl,rfl,ho,hb4⟩;obtain ⟨Bd,dd,Bm,dm,Bl,dl,rfl,rfl,rfl, -,hc⟩:=ho.reads;have HO4:=As ho;have HX4:=As (bj HX3.out hb4);have HN4:=As (Nat.le_trans HX3.out.size (Nat.le_refl _));have HC4:=As hc;have HN34:=As hb4.size;have HX43:=As hb4;clear ho hb4 hc x0 x1 x2 x3 x4)
     | (refine Ag (vd:=.slice Bd e.disk.length dd) (vm:=.slice Bm e.mem.length dm) (vl:=.slice Bl e.log.length dl) e ?_;intro w5 hb5 hz5 hq5;have HO5:=As (HO4.out.below hb5);have HX5:=As (bj HX4.out hb5);have HC5:=As (HC4.out.up hb5);have HQ5:=As hq5;have x0:=hq5.c0;have x1:=hq5.c1;have x2:=hq5.c2;have x3:=hq5.c3;have x4:=hq5.c4;rw [HDN.out] at x4;have HB35:=As (bj HX43.out hb5);clear hb5 hq5)
     | (go_at_call 86;refine (LU (w0:=w5) (c:=dd) (d:=dl) HGD.out (fun k hk => (Aq HF.out.log hk).ok) HLG.out (Below.refl _ _) HC5.out.d HC5.out.l).mono ?_;rw [HRR.out];rintro x w6 ⟨v,rfl,ho,hb6⟩;obtain ⟨Bn,dn,rfl, -, -⟩:=Kd.BI ho;have HO6:=As (Jz HO5.out hb6 ho HB35.out.size);have hq6:=HQ5.out.up hb6;have HQ6:=As hq6;have HB36:=As (bj HB35.out hb6);have g1:=hq6.frz 1;have x1':=hq6.c1;have x2':=hq6.c2;clear ho hb6 hq6 x0 x1 x2 x3 x4)
     | (go_at_call 42;obtain ⟨w7,hw7⟩ : ∃ w7,w6.setCell ⟨w4.heap.size,1,none⟩ (.slice Bn R.length dn) = w7:=⟨_,rfl⟩;have hq7 : Ac w7 w4.heap.size { e with mem:=R } (.slice Bd e.disk.length dd) (.slice Bn R.length dn) (.slice Bl e.log.length dl):=(by rw [← hw7];exact HQ6.out.set1 _);have ho7 : AO w7 w3.heap.size (.slice Bd e.disk.length dd) (.slice Bn R.length dn) (.slice Bl e.log.length dl) { e with mem:=R }:=(by rw [← hw7];exact HO6.out.FQ HQ6.out 1 _);have hb7 : Below w3.heap.size w3 w7:=(by rw [← hw7];exact HB36.out.setCell (p:=⟨w4.heap.size,1,none⟩) HN34.out _);have hc7:=ho7.reads';rw [hw7];refine (FD (w0:=w7) (c:=dl) (Below.refl _ _) hc7.l).mono ?_;rintro x w8 ⟨v,rfl,ho,hb8⟩;obtain ⟨Av,cv,rfl, -,hvc⟩:=ho.reads;have HEG0:=As (BR.up ⟨⟨_,_,_,hq7,ho7⟩,hb7,HN34.out⟩ hb8);have HVC:=As hvc;clear hw7 hq7 ho7 hb7 hc7 ho hb8 hvc x1' x2' g1))
    have HX4G : Aa (w3.heap.size ≤ w4.heap.size):=HN34
    have hroom:=HRO.out.room'
    go_loopw [7,8] (fun l i wr => ∃ (k : Nat) (x : Eng) (A : Option Addr) (c : Nat),k ≤ n ∧ l = .slice A (BX x.log 3).length c ∧ i = .int .i64 (k : Int) ∧ Aa (Kd.C (Kd.int .i64) wr A (BX x.log 3).length (BX x.log 3)) ∧ Aa (BR w3 wr w4.heap.size x) ∧ Aa (FH x ∧ Df (n - k) x = X) ∧ k + Bu x.log x.log.length ≤ 150) (fun _ i _ => (n - intOf i).toNat)
    case atStart => exact ⟨0,{ e with mem:=R },Av,cv,Nat.zero_le _,rfl,rfl,HVC,HEG0,⟨HRO.out,HRX.out⟩,by show 0 + Bu e.log e.log.length ≤ 150;have : e.log.length + Bu e.log e.log.length ≤ 150:=hroom;omega⟩
    case round =>
     obtain ⟨k,x,A,c,hk,rfl,rfl,HVl,HEG,HRK,hkn⟩:=hrel
     by_cases h0 : Ay x = 0
     ·have hXx : X = x:=by rw [← HRK.out.2,OM h0]
      have hU1 : upE X = { x with down:=false }:=by rw [hXx,upE,if_pos h0]
      have hU2 : decide (Ay X = 0) = true:=by rw [hXx];simp [h0]
      have hol : BX x.log 3 = []:=Vt h0
      rw [hol]
      have HU:=As (And.intro hU1 hU2)
      clear hXx hol hU1 hU2 h0 hkn hroom
      by_cases hlt : k < n
      all_goals
       have hx2:=bj HX3.out HEG.out.bel
       obtain ⟨vd,vm,vl,hq,ho⟩:=HEG.out.ex
       obtain ⟨Ed,n1,Em,n2,El,n3,rfl,rfl,rfl, -, -⟩:=ho.reads
       have q0:=hq.c0
       have q1:=hq.c1
       have q2:=hq.c2
       have q3:=hq.c3
       have q4:=hq.c4
       have g4:=hq.frz 4
       have hp:=HP2.out.up hx2
       have y0:=hp.c0
       have y1:=hp.c1
       have y2:=hp.c2
       have y3:=hp.c3
       have y4:=hp.c4
       have f0:=hp.frz 0
       have f1:=hp.frz 1
       have f2:=hp.frz 2
       have f3:=hp.frz 3
       have f4:=hp.frz 4
       have HQ:=As hq
       have HO:=As ho
       have HP:=As hp
       have HX:=As hx2
       have HG:=As HEG.out.ge
       clear hq ho hp hx2
       have hne1 : ¬ w4.heap.size = w.heap.size + 1:=by have:=HZ2.out;have:=HX3.out.size;have:=HX4G.out;omega
       have hne2 : ¬ w.heap.size + 1 = w4.heap.size:=fun e => hne1 e.symm
       go_wp2
       have hz:=HZ2.out
       have hn3:=HX3.out.size
       have hge:=HG.out
       have hgl:=HX4G.out
       have r1:=HO.out.FQ HQ.out 4 (.bool false)
       have p1:=HP.out.far (b:=w4.heap.size) (by omega) 4 (.bool false)
       have b1:=(bj HB2.out HX.out).setCell (p:=⟨w4.heap.size,4,none⟩) (by show w.heap.size ≤ w4.heap.size;omega) (.bool false)
       have hy:=p1.Ao { x with down:=false } (.slice Ed x.disk.length n1) (.slice Em x.mem.length n2) (.slice El x.log.length n3)
       have h1:=r1.Ao (f:={ x with down:=false }) (xd:=.slice Ed x.disk.length n1) (xm:=.slice Em x.mem.length n2) (xl:=.slice El x.log.length n3) p1
       have h2:=Ah (g:=w.heap.size + 1) b1 (by omega) { x with down:=false } (.slice Ed x.disk.length n1) (.slice Em x.mem.length n2) (.slice El x.log.length n3)
       have z0:=hy.c0
       have z1:=hy.c1
       have z2:=hy.c2
       have z3:=hy.c3
       have z4:=hy.c4
       simp only at z0 z1 z2 z3 z4
       have hd1 : AO (Go.Proofs.YtofgeajaajfiaaaGreat.Ao (wr.setCell ⟨w4.heap.size,4,none⟩ (.bool false)) (w.heap.size + 1) { x with down:=false } (.slice Ed x.disk.length n1) (.slice Em x.mem.length n2) (.slice El x.log.length n3)) w3.heap.size (.slice Ed x.disk.length n1) (.slice Em x.mem.length n2) (.slice El x.log.length n3) { x with down:=false }:=⟨h1.ex,h1.l⟩
       exact bodyPost_ret (v:=.tuple #[.agg #[.slice Ed x.disk.length n1, .slice Em x.mem.length n2, .slice El x.log.length n3, .int .i64 x.safe, .bool false], .bool true]) (by simp [results,Tryz.results94,go_sem,z0,z1,z2,z3,z4]) rfl ⟨.slice Ed x.disk.length n1, .slice Em x.mem.length n2, .slice El x.log.length n3,by rw [HU.out.1,HU.out.2],by rw [HU.out.1];exact hd1.lower (by omega),h2⟩
     ·obtain ⟨rest,hopen⟩:=Vs h0
      have hlen : (BX x.log 3).length = rest.length + 1:=by rw [hopen];rfl
      have hv0 : iv (BX x.log 3) 0 = Ay x:=by rw [hopen];rfl
      have HV0:=As hv0
      have HLN:=As hlen
      by_cases hlt : k < n
      ·obtain ⟨hso,hro',hnd⟩:=HRK.out.1.step h0
       have hrk : Df (n - (k + 1)) (Be x (Ay x)) = X:=by
        have h:=HRK.out.2
        rw [show n - k = (n - (k + 1)) + 1 by omega,Df,if_neg h0] at h
        exact h
       obtain ⟨t,ht⟩ : ∃ t,Ay x = t:=⟨_,rfl⟩
       rw [ht] at hso hro' hnd hrk hv0
       have HSO:=As hso
       have HNX:=As (And.intro hro' hrk)
       have HND:=As (show k + 1 + Bu (Be x t).log (Be x t).log.length ≤ 150 by omega)
       have hk150 : k ≤ 150:=by omega
       obtain ⟨ad,rfl,g0⟩:=Dj HVl.out 0 (by omega)
       rw [hv0] at g0
       have e0 : ad.add 0 = ad:=by simp [Addr.add]
       have g0' : wr.cell? ad = some (.int .i64 t):=by rw [← e0];exact g0
       have hwr : IntKind.i64.wrap ((k : Int) + 1) = (k : Int) + 1:=by simp (disch:=omega) only [IntWalk.i64_in]
       rw [hlen]
       clear hso hro' hnd hrk hv0 hopen h0 hkn hroom ht hlen HV0 HLN e0
       go_wp2_with (first
        | (go_at_call 136;refine (Oy HSO.out HEG.out).mono ?_;rintro x1 w9 ⟨⟨v1,rfl⟩,hg9⟩;have HG9:=As hg9;obtain ⟨ud,um,ul,hq9,ho9⟩:=hg9.ex;obtain ⟨Ud,u1,Um,u2,Ul,u3,rfl,rfl,rfl, -,hc9⟩:=ho9.reads;have x2':=hq9.c2;have HC9:=As hc9;clear hg9 hq9 ho9 hc9 g0 g0')
        | (go_at_call 42;refine (FD (w0:=w9) (c:=u3) (Below.refl _ _) HC9.out.l).mono ?_;rintro x1 w10 ⟨v2,rfl,ho,hb10⟩;obtain ⟨Av2,cv2,rfl, -,hvc⟩:=ho.reads;have HEG2:=As (HG9.out.up hb10);have HVC2:=As hvc;clear ho hb10 hvc x2'))
       go_roundw
       case rel => exact ⟨k + 1,Be x t,Av2,cv2,by omega,rfl,by go_num,HVC2,HEG2,HNX,HND.out⟩
       case measure => simp [intOf];omega
      ·have hkn' : k = n:=by omega
       have hXx : X = x:=by
        have h:=HRK.out.2
        rw [hkn',Nat.sub_self] at h
        exact h.symm
       have HU:=As (show upE X = { x with mem:=x.disk } ∧ decide (Ay X = 0) = false from ⟨by rw [hXx,upE,if_neg h0],by rw [hXx];simp [h0]⟩)
       have HGX:=As (show geo x.disk from by
        have h1:=(Km n { e with mem:=R }).1
        rw [HRX.out,hXx] at h1
        rw [h1]
        exact HGD.out)
       have hx2:=bj HX3.out HEG.out.bel
       obtain ⟨vd,vm,vl,hq,ho⟩:=HEG.out.ex
       obtain ⟨Ed,n1,Em,n2,El,n3,rfl,rfl,rfl, -,hc⟩:=ho.reads
       have q0:=hq.c0
       have HQ:=As hq
       have HO:=As ho
       have HC:=As hc
       have HEB:=As HEG.out.bel
       rw [hlen]
       clear hq ho hc hx2 hXx h0 hkn hroom hopen hv0 hlen HV0 HLN hkn'
       have hne1 : ¬ w4.heap.size = w.heap.size + 1:=by have:=HZ2.out;have:=HX3.out.size;have:=HX4G.out;omega
       have hne2 : ¬ w.heap.size + 1 = w4.heap.size:=fun e => hne1 e.symm
       go_wp2_with (go_at_call 95;refine (EZ (w0:=wr) (c:=n1) (G5 HGX.out) (by have:=HGX.out.1;omega) (Below.refl _ _) HC.out.d).mono ?_;rintro x1 w9 ⟨v1,rfl,ho9,hb9⟩;obtain ⟨Cd,k1,rfl, -, -⟩:=Kd.BI ho9;have HO9:=As (Jz HO.out hb9 ho9 HEB.out.size);have hq9:=HQ.out.up hb9;have HQ9:=As hq9;have HB9:=As (bj HEB.out hb9);have hp9:=HP2.out.up (bj HX3.out HB9.out);have HP9:=As hp9;have g1:=hq9.frz 1;have q0':=hq9.c0;have q1':=hq9.c1;have q2':=hq9.c2;have q3':=hq9.c3;have q4':=hq9.c4;have y0:=hp9.c0;have y1:=hp9.c1;have y2:=hp9.c2;have y3:=hp9.c3;have y4:=hp9.c4;have f0:=hp9.frz 0;have f1:=hp9.frz 1;have f2:=hp9.frz 2;have f3:=hp9.frz 3;have f4:=hp9.frz 4;clear ho9 hb9 hq9 hp9 q0)
       have hz:=HZ2.out
       have hn3:=HX3.out.size
       have hgl:=HX4G.out
       have r1:=HO9.out.FQ HQ9.out 1 (.slice Cd x.disk.length k1)
       have p1:=HP9.out.far (b:=w4.heap.size) (by omega) 1 (.slice Cd x.disk.length k1)
       have b1:=(bj HB2.out (bj HX3.out HB9.out)).setCell (p:=⟨w4.heap.size,1,none⟩) (by show w.heap.size ≤ w4.heap.size;omega) (.slice Cd x.disk.length k1)
       have hy:=p1.Ao { x with mem:=x.disk } (.slice Ed x.disk.length n1) (.slice Cd x.disk.length k1) (.slice El x.log.length n3)
       have h1:=r1.Ao (f:={ x with mem:=x.disk }) (xd:=.slice Ed x.disk.length n1) (xm:=.slice Cd x.disk.length k1) (xl:=.slice El x.log.length n3) p1
       have h2:=Ah (g:=w.heap.size + 1) b1 (by omega) { x with mem:=x.disk } (.slice Ed x.disk.length n1) (.slice Cd x.disk.length k1) (.slice El x.log.length n3)
       have z0:=hy.c0
       have z1:=hy.c1
       have z2:=hy.c2
       have z3:=hy.c3
       have z4:=hy.c4
       simp only at z0 z1 z2 z3 z4
       exact bodyPost_ret (v:=.tuple #[.agg #[.slice Ed x.disk.length n1, .slice Cd x.disk.length k1, .slice El x.log.length n3, .int .i64 x.safe, .bool x.down], .bool false]) (by simp [results,Tryz.results94,go_sem,z0,z1,z2,z3,z4]) rfl ⟨.slice Ed x.disk.length n1, .slice Cd x.disk.length k1, .slice El x.log.length n3,by rw [HU.out.1,HU.out.2],by rw [HU.out.1];exact h1.lower (by omega),h2⟩
open Go.RowKit Go.Proofs.YtofgeajaajfiaaaGreatW.PrintWords Go.Proofs.YtofgeajaajfiaaaGreatW.PrintLast Go.Proofs.YtofgeajaajfiaaaGreatW.PrintMore Go.ChangeShapes Go.WideShapes Go.Deep
section
variable {H : Type} {enc : TypeId × Value → H} {P : Program} {w : World} {spare : Nat → Bool} {held : Bool}
def Opens (P : Program) (enc : TypeId × Value → H) (w : World) (spare : Nat → Bool) (held : Bool) {α : Type} (d : Kd α) (t : TypeId) : Prop:=
 ∀ fuel cs x,DataW.trod enc P w 0 spare held fuel t cs = some x → ∃ a,d.K w a cs
theorem J6 {t : TypeId} {k : IntKind} (ht : P.underlying t = some (.int k)) : Opens P enc w spare held (Kd.int k) t:=by
 intro fuel cs x h
 obtain ⟨n,rfl, -⟩:=DataW.trod_int ht h
 exact ⟨n,rfl⟩
theorem WT {a : Addr} {n : Nat} {cs : List Value} (h : w.cells? 0 a n = some cs) (i : Nat) (u : Value) (hi : cs[i]? = some u) : w.cell? (a.add i) = some u:=by
 unfold World.cells? at h
 rw [if_pos (Nat.zero_le _)] at h
 have hl:=mapM_some_length h
 have hlt : i < n:=by have:=(List.getElem?_eq_some_iff.1 hi).1;simp at hl;omega
 rw [mapM_some_get h i i (by simp [hlt]),hi]
theorem Gu {α : Type} {d : Kd α} {t e : TypeId} (ht : P.underlying t = some (.slice e)) (hsz : P.cellsOf e = d.sz) (hd : Opens P enc w (fun _ => true) held d e) : Opens P enc w (fun _ => true) held (Kd.slice e d) t:=by
 intro fuel cs x h
 rcases open_slice ht h with ⟨rfl, -⟩ | ⟨a,len,cap,m,n,D,Pl,rfl, -,hl,hc,hm, -,hel⟩
 ·exact ⟨[],none,0,rfl,Nat.le_refl _,rfl,by simp,fun h0 => by simp at h0⟩
 ·rw [if_pos rfl] at hm
  subst hm
  have key : ∀ j,j ≤ len → ∃ xs : List α,xs.length = j ∧ ∀ i p,xs[i]? = some p → ∃ c,c.length = d.sz ∧ d.K w p c ∧ ∀ k u,c[k]? = some u → w.cell? (a.add (i * d.sz + k)) = some u:=by
   intro j
   induction j with
   | zero => exact fun _ => ⟨[],rfl,fun i p hp => by simp at hp⟩
   | succ j ih =>
    intro hj
    obtain ⟨xs,h1,h2⟩:=ih (by omega)
    obtain ⟨cs',h3,h4⟩:=hel j (by omega)
    obtain ⟨p,hp⟩:=hd _ _ _ h4
    refine ⟨xs ++ [p],by simp [h1],fun i q hq => ?_⟩
    by_cases hi : i < j
    ·exact h2 i q (by rwa [List.getElem?_append_left (by omega)] at hq)
    ·have hlt:=(List.getElem?_eq_some_iff.1 hq).1
     have hij : i = j:=by simp [h1] at hlt;omega
     subst hij
     rw [List.getElem?_append_right (by omega),h1,Nat.sub_self] at hq
     cases hq
     refine ⟨cs',d.K_len hp,hp,fun k u hk => ?_⟩
     rw [hsz] at h3
     rw [← Go.Deep.add_add]
     exact WT h3 k u hk
  obtain ⟨xs,h1,h2⟩:=key len (Nat.le_refl _)
  exact ⟨xs,some a,m,by rw [h1],by rw [h1];exact hl,rfl,by rw [h1];have : maxLen = 9223372036854775807:=rfl;omega,fun _ => ⟨a,rfl,h2⟩⟩
end
section
variable {H : Type} {enc : TypeId × Value → H} {w : World} {held : Bool}
end
end Go.Proofs.YtofgeajaajfiaaaGreat
