import Derived.WalkKit
import Derived.Lib.Hide
import Derived.Deep.LoopGhost
import Derived.Deep.MidRow
import Derived.BigQuiet
import Derived.Laws.EntriesVeiled
import Derived.Deep.RegionLaw
namespace Go.Proofs.YtphkhfdmlcnoeaaGreatDoor
set_option linter.unusedVariables false
set_option linter.unusedSimpArgs false
set_option maxRecDepth 1000000
set_option maxHeartbeats 32000000
open Go.RowKit
section
theorem Q1 {p : Prop} (h : p := by decide) : p := h
theorem Q3 {p : Prop} (h : p := by omega) : p := h
theorem Q5 {p : Prop} (h : p := by kernel_rfl) : p := h
theorem Qn {p : Prop} (h : p := by simp) : p := h
theorem QT {p : Prop} (h : p := by assumption) : p := h
theorem Q2 {p : Prop} (h : p) : Hid p := Lib.hid h
structure Hq(q:Prop):Prop where
  o:q
universe u
variable{α:Sort u}
abbrev mc0(x:α:=by exact [.blk b5 (.cells ([.string ⟨name.toArray⟩,.int .i64 kind,.slice Ab bs.length cb,.int .i64 size,.bool big,.int .i64 mn,.int .i64 mx,.int .i64 stop,.int .i64 count,.int .i64 elem,.slice An names.length cn,.slice Ap parts.length cp]:List Value).toArray 65 (0,0)),.blk b1 (.cells ([.slice (some ⟨b,o,none⟩) n c]:List Value).toArray 24 (0,0))]):α:=x
abbrev mc1(x:α:=by exact (.cons rfl rfl (.cons rfl rfl (.cons rfl rfl (.cons rfl rfl .nil))))):α:=x
abbrev mc2(x:α:=by exact (.cons rfl rfl (.cons rfl rfl (.cons rfl rfl (.cons rfl (by go_num) .nil))))):α:=x
abbrev mc3(x:α:=by exact (Ag.cons (Ag.cons (Ag.nil rfl rfl) rfl) rfl)):α:=x
abbrev mc4(x:α:=by exact .inr rfl):α:=x
abbrev mc5(x:α:=by exact (Qvc rfl rfl Q1 rfl rfl)):α:=x
abbrev mc6(x:α:=by exact (Jv (xs:=[]) (vs:=[]) (v:=.agg #[.int .i64 0,.int .i64 0]) rfl rfl Q1 rfl rfl (fun w=>run_build w _ _ _ Q5))):α:=x
abbrev mc8(x:α:=by exact Ag.cons (Ag.cons (Ag.cons (Ag.nil ha.sz ha.df) (by exact ha.at_ rfl)) (by exact ha.at_ rfl)) (by exact ha.at_ rfl)):α:=x
abbrev Q76(x:α:=by exact (Qm.sel [0] Q1 rfl)):α:=x
abbrev Q0N(x:α:=by (try simp only[List.length_append,List.length_cons,List.length_nil]);omega):α:=x
abbrev Zu(x:α:=by first|exact Nat.le_refl _|(simp only[QB];omega)):α:=x
abbrev Jm(x:α:=by exact (Qm.sel [0,1] Q1 rfl)):α:=x
abbrev V3(x:α:=by go_ret;exact⟨by rw[<- HF.out];simp [QH, *],X9 HB1.out (Up.b _)⟩):α:=x
abbrev QuO(x:α:=by exact [.string ⟨name.toArray⟩,.int .i64 9,.slice Ab bs.length cb,.int .i64 size,.bool big,.int .i64 mn,.int .i64 mx,.int .i64 stop,.int .i64 count,.int .i64 elem,.slice An names.length cn,.slice Ap parts.length cp]):α:=x
abbrev Qtt(x:α:=by exact (.cells ([.string ⟨name.toArray⟩,.int .i64 8,.slice Ab bs.length cb,.int .i64 size,.bool big,.int .i64 mn,.int .i64 mx,.int .i64 stop,.int .i64 count,.int .i64 elem,.slice An names.length cn,.slice (some ⟨bp,op,none⟩) parts.length cp]:List Value).toArray 65 (0,0))):α:=x
abbrev Q3g(x:α:=by exact (Ql (f:=126) rfl rfl Q1 rfl rfl (fun w hw=>Q01 w))):α:=x
abbrev Q8e(x:α:=by exact fun(w:World) (Ab An Ap:Option Addr) (cb cn cp:Nat) (hw:XV w z B g F A c xs n) (hru:RuB w B (Qh F k) Ab cb An cn Ap cp) (hval:VIn w B v d p)=>Q7B hw hv hk hru hval hd1 hd2):α:=x
abbrev Xa(x:α:=by simp only[QB]):α:=x
abbrev Q6O(x:α:=by exact [.blk g (.cells ([.slice (some ⟨bf,of,none⟩) nn cf,.slice A xs.length c,.int .i64 (n:Int)]:List Value).toArray 77 (0,0)),.row A xs.length c 5 1 (bv xs)]):α:=x
abbrev Kd(x:α:=by exact (Qjs rfl rfl Q1 rfl rfl)):α:=x
abbrev Q84(x:α:=by exact (fun w hw=>hw.rd_blk 0 rfl rfl)):α:=x
abbrev QR(x:α:=by exact (Wd.start [] W)):α:=x
abbrev Q8k(x:α:=by exact [(0,.pointer (some ⟨g,0,none⟩)),(1,.int .i64 k),(2,.agg [.int .i64 dk,.int .i64 dn,.slice Abv dbs.length cbv,.slice Anv dns.length cnv,.slice Apv p.len cpv].toArray)]):α:=x
abbrev Qv6(x:α:=by exact (Q4n rfl rfl Q1 rfl rfl rfl Tryz.underlying3 hcv)):α:=x
abbrev Qi7(x:α:=by exact (Qrc (k:=.i64) rfl rfl Q1 rfl rfl rfl (IntWalk.i64_in _ Q3))):α:=x
abbrev Q3V(x:α:=by exact (Q0U 0 rfl rfl rfl rfl rfl rfl rfl Qn)):α:=x
abbrev Q1v(x:α:=by exact (2,.pointer (some ⟨b2,0,none⟩))):α:=x
abbrev Yp(x:α:=by exact (1,.pointer (some ⟨b1,0,none⟩))):α:=x
abbrev Q7Z(x:α:=by exact [.string ⟨name.toArray⟩,.int .i64 7,.slice Ab bs.length cb,.int .i64 size,.bool big,.int .i64 mn,.int .i64 mx,.int .i64 stop,.int .i64 count,.int .i64 elem,.slice An names.length cn,.slice Ap parts.length cp]):α:=x
abbrev QuB(x:α:=by exact [.string ⟨name.toArray⟩,.int .i64 6,.slice Ab bs.length cb,.int .i64 size,.bool big,.int .i64 mn,.int .i64 mx,.int .i64 stop,.int .i64 count,.int .i64 elem,.slice An names.length cn,.slice Ap parts.length cp]):α:=x
abbrev Q69(x:α:=by exact (Qab (f:=122) (fun _:Option Addr×Nat=>.tuple #[]) (fun _=>True) _ rfl rfl rfl rfl (fun w hw=>QtC _ _ Q3 hw))):α:=x
abbrev Q0p(x:α:=by exact (QcQ rfl rfl Q1 rfl rfl)):α:=x
abbrev Ym(x:α:=by exact (fun w hw=>⟨by rw[HZ.out],hw.k.below⟩)):α:=x
abbrev Q1s(x:α:=by exact (.cells ([.slice (some ⟨b,o,none⟩) n c]:List Value).toArray 24 (0,0))):α:=x
abbrev Zl(x:α:=by exact (Ag.cons (Ag.nil rfl rfl) rfl)):α:=x
abbrev Qa7(x:α:=by exact (.cons rfl rfl (.cons rfl rfl mc1))):α:=x
abbrev Q8b(x:α:=by exact (fun w=>run_build w _ _ _ Q5)):α:=x
abbrev Q6G(x:α:=by exact (.cons rfl rfl (.cons rfl rfl .nil))):α:=x
abbrev Xt(x:α:=by exact (Qm.rfl_)):α:=x
abbrev Qen(x:α:=by simp [Value.oneCell']):α:=x
abbrev Q6S(x:α:=by exact (some ⟨g,0,none⟩)):α:=x
abbrev Q0G(x:α:=by exact (Qm.sel [1,2] Q1 rfl)):α:=x
abbrev KJ(x:α:=by exact (J6 rfl rfl Q1 rfl rfl rfl Q3)):α:=x
abbrev Kl(x:α:=by exact (RsV.blk 1 rfl rfl rfl)):α:=x
abbrev Qpy(x:α:=by exact [(0,.agg ([.string ⟨name.toArray⟩,.int .i64 2,.slice Ab bs.length cb,.int .i64 size,.bool big,.int .i64 mn,.int .i64 mx,.int .i64 stop,.int .i64 count,.int .i64 elem,.slice An names.length cn,.slice Ap parts.length cp]:List Value).toArray),(1,.int .i64 (b:Int))]):α:=x
abbrev Q10(x:α:=by exact (HG.out.on hw.k.below)):α:=x
abbrev VH(x:α:=by exact (Qm.sel [0,1,2] Q1 rfl)):α:=x
abbrev Q0k(x:α:=by exact (5,.pointer (some ⟨b5,0,none⟩))):α:=x
abbrev QtW(x:α:=by exact (0,.agg (ruC r (.slice Ab r.bs.length cb) (.slice An r.names.length cn) (.slice Ap r.parts.length cp)).toArray)):α:=x
abbrev Q6y(x:α:=by exact (Qm.sel [0,2] Q1 rfl)):α:=x
abbrev Q4m(x:α:=by exact (Q06 rfl rfl Q1 rfl rfl rfl (by first|exact decide_eq_true Q3|rfl))):α:=x
abbrev Qj5(x:α:=by exact Q2 (show RES=.ok (Zo F (Qh F k) d p,n+1) by rw[<- hres];exact Q4P hfit (by unfold JE;rw[if_neg Q3,if_neg Q3,if_neg Q3]) (Q1l Q3 Q3))):α:=x
abbrev Q3Z(x:α:=by exact Q2 (show Rd W B 1 Ab bs.length (bv bs) from HRU.out.b)):α:=x
abbrev Q5u(x:α:=by exact (.cons rfl rfl (.cons rfl rfl (.cons rfl (by go_num) .nil)))):α:=x
abbrev JM(x:α:=by exact (Qm.sel [1] Q1 rfl)):α:=x
abbrev Qal(x:α:=by exact Q7 mc4 rfl (.tmp rfl) Ym):α:=x
abbrev Q5s(x:α:=by exact (Q0U 1 rfl rfl rfl rfl (Qkn _) (Xj _) rfl (by simp [Xj]))):α:=x
abbrev QnD(x:α:=by exact (3,.pointer (some ⟨b3,0,none⟩))):α:=x
abbrev Q5o(x:α:=by exact (.cells [.slice (some ⟨b,o,none⟩) n c].toArray 24 (0,0))):α:=x
abbrev Q3v(x:α:=by exact (Q0U 1 rfl rfl rfl rfl rfl rfl rfl Qn)):α:=x
abbrev Q3G(x:α:=by exact (Ql (f:=91) rfl rfl Q1 rfl rfl (fun w hw=>QbT _ _ w))):α:=x
abbrev Q1T(x:α:=by exact (.cons rfl rfl (.cons rfl rfl (.cons rfl rfl mc2)))):α:=x
abbrev Qon(x:α:=by exact ⟨name,kind,bs,size,big,mn,mx,stop,count,elem,names,parts⟩):α:=x
abbrev QsZ(x:α:=by exact (.cells ([.string ⟨name.toArray⟩,.int .i64 1,.slice Ab bs.length cb,.int .i64 size,.bool big,.int .i64 mn,.int .i64 mx,.int .i64 stop,.int .i64 count,.int .i64 elem,.slice An names.length cn,.slice Ap parts.length cp]:List Value).toArray 65 (0,0))):α:=x
abbrev Q5q(x:α:=by exact Q2 (Qnq HN6.out HALL.out (by have:=HD.out;rwa [List.take_of_length_le (by rw[HL.out];omega)] at this))):α:=x
abbrev Q5g(x:α:=by exact Q7 mc4 rfl (.tmp rfl) (fun w hw=>⟨rfl,hw.k.below⟩)):α:=x
abbrev Vz(x:α:=by exact (some ⟨bf,of,none⟩)):α:=x
abbrev Qsp(x:α:=by exact (Ql (f:=125) rfl rfl Q1 rfl rfl (fun w hw=>Q1L w))):α:=x
abbrev Q0w(x:α:=by exact (some ⟨br,0,none⟩)):α:=x
abbrev Q02(x:α:=by exact (Qm.sel [2,0] Q1 rfl)):α:=x
abbrev Vj(x:α:=by exact (Qm.sel [1,3] Q1 rfl)):α:=x
abbrev Q98(x:α:=by exact (.cells (ruC r (.slice Ab r.bs.length cb) (.slice An r.names.length cn) (.slice Ap r.parts.length cp)).toArray 65 (0,0))):α:=x
abbrev Zp(x:α:=by simp only[QB];omega):α:=x
abbrev Q5b(x:α:=by exact (Q4T rfl rfl Q1 rfl rfl)):α:=x
abbrev Jy(x:α:=by exact (J4 (size:=1) rfl rfl rfl rfl rfl Q1)):α:=x
abbrev QsJ(x:α:=by exact (.cells ([.int .i64 0,.int .i64 0,.slice none 0 0,.slice none 0 0,.slice none 0 0]:List Value).toArray 30 (0,0))):α:=x
abbrev VY(x:α:=by exact ⟨h3,.inl ⟨x,h1,by rw[h2]⟩⟩):α:=x
abbrev Qr8(x:α:=by exact [.string ⟨name.toArray⟩,.int .i64 8,.slice Ab bs.length cb,.int .i64 size,.bool big,.int .i64 mn,.int .i64 mx,.int .i64 stop,.int .i64 count,.int .i64 elem,.slice An names.length cn,.slice Ap parts.length cp]):α:=x
abbrev Qs2(x:α:=by exact [.string ⟨name.toArray⟩,.int .i64 5,.slice Ab bs.length cb,.int .i64 size,.bool big,.int .i64 mn,.int .i64 mx,.int .i64 stop,.int .i64 count,.int .i64 elem,.slice An names.length cn,.slice Ap parts.length cp]):α:=x
abbrev Q37(x:α:=by exact (Yz rfl rfl Q1 rfl rfl rfl (by first|assumption|rfl))):α:=x
abbrev Qdl(x:α:=by exact (QdL rfl rfl Q1 rfl rfl rfl (by rw[V9,V9];simp only[Q7n,List.length_take,List.length_append,List.length_cons,List.length_nil]<;>omega))):α:=x
abbrev Q1J(x:α:=by exact Q2 (show Below w.heap.size w W1 by rw[<- hW1];exact Qvt _ _ _ _)):α:=x
abbrev QgU(x:α:=by exact (Qhf (k:=.i64) rfl rfl Q1 rfl rfl rfl (IntWalk.i64_in _ Q3))):α:=x
abbrev Q9u(x:α:=by exact (FC.new (w.alloc (.cells #[.int .i64 d.k,.int .i64 d.n,.slice Ab nb cb,.slice An nn cn,.slice Ap p.len cp] 30)) 0 0).on hb2):α:=x
abbrev Q0v(x:α:=by exact (some ⟨b,0,none⟩)):α:=x
abbrev Qr9(x:α:=by exact (YV rfl rfl Q1 rfl rfl rfl (by first|exact decide_eq_true Q3|rfl))):α:=x
abbrev VC(x:α:=by exact (some ⟨bs,0,none⟩)):α:=x
abbrev Xr(x:α:=by exact (Nat.le_refl _)):α:=x
abbrev VE(x:α:=by exact (J4 rfl rfl rfl rfl rfl Qn)):α:=x
abbrev XW(x:α:=by exact (Ag.cons mc3 rfl)):α:=x
abbrev Z4(x:α:=by exact (Nat.zero_le _)):α:=x
abbrev Q15(x:α:=by exact ⟨Nat.zero_le _,fun j hj=>absurd hj (Nat.not_lt_zero _)⟩):α:=x
abbrev Qrb(x:α:=by exact (.cells ([.string ⟨name.toArray⟩,.int .i64 2,sb,.int .i64 (sz:Int),.bool big,.int .i64 mn,.int .i64 mx,.int .i64 stop,.int .i64 count,.int .i64 elem,sn,sp]:List Value).toArray 65 (0,0))):α:=x
abbrev VD(x:α:=by exact (0,.agg #[.slice A n c])):α:=x
abbrev Qqo(x:α:=by exact (.cells ([.string ⟨name.toArray⟩,.int .i64 3,sb,.int .i64 size,.bool big,.int .i64 mn,.int .i64 mx,.int .i64 stop,.int .i64 count,.int .i64 elem,sn,sp]:List Value).toArray 65 (0,0))):α:=x
abbrev Qcb(x:α:=by exact (.cells ([.int .i64 dk,.int .i64 dn,.slice Abv dbs.length cbv,.slice Anv dns.length cnv,.slice Apv p.len cpv]:List Value).toArray 30 (0,0))):α:=x
abbrev KO(x:α:=by exact (HFM.out.on hw.k.below)):α:=x
abbrev Vf(x:α:=by go_ret;exact⟨by rw[HT.out];rfl,HB2.out⟩):α:=x
abbrev JR(x:α:=by exact (fun _=>.inl Q1)):α:=x
abbrev Qmj(x:α:=by exact (X4 rfl rfl Q1 rfl rfl (by first|exact fun w hw=>hw.range_blk 0 rfl|exact fun w hw=>hw.range_old QT Qn) (by rfl))):α:=x
abbrev QcA(x:α:=by exact (fun _ _ h=>by rw[HC.out] at h;exact h)):α:=x
abbrev Vw(x:α:=by show n - (i+1)<n - i;omega):α:=x
abbrev Q95(x:α:=by show Wd [] W [.row z.1 (i+1) z.2 3 1 (iv (ZH F old (i+1))),_] w;rw[<- HST.out,<- Q3s];exact hw.tl.tl):α:=x
abbrev Qrw(x:α:=by exact [.string ⟨name.toArray⟩,.int .i64 7,.slice Ab bs.length cb,.int .i64 size,.bool big,.int .i64 mn,.int .i64 mx,.int .i64 stop,.int .i64 count,.int .i64 elem,.slice (some ⟨bn,on,none⟩) names.length cn,.slice (some ⟨bp,op,none⟩) parts.length cp]):α:=x
abbrev Q1F(x:α:=by exact fun j u hu=>Up.cell (Q7O j u hu) ⟨_,Q39 _ _ _⟩):α:=x
abbrev Q0s(x:α:=by exact (0,.agg #[.slice (some ⟨b,o,none⟩) n c])):α:=x
abbrev QrN(x:α:=by exact (1,.agg [.string ⟨name.toArray⟩,.int .i64 kind,sb,.int .i64 size,.bool big,.int .i64 mn,.int .i64 mx,.int .i64 stop,.int .i64 count,.int .i64 elem,sn,sp].toArray)):α:=x
abbrev Q9n(x:α:=by exact (Ql (f:=20) rfl rfl Q1 rfl rfl (fun w hw=>Qna _ _ w))):α:=x
abbrev Q63(x:α:=by exact (Yz rfl rfl Q1 rfl rfl rfl (by first|exact beq_eq_false_iff_ne.2 Q3|rfl))):α:=x
abbrev Q4z(x:α:=by exact Q2 (show ns.length=nn by have:=hr.len;rw[Xw] at this;exact this)):α:=x
abbrev VA(x:α:=by exact (h _ (by rw[hd];exact ha.put _ hN))):α:=x
abbrev Q0C(x:α:=by exact (4,.pointer (some ⟨b4,0,none⟩))):α:=x
abbrev KY(x:α:=by exact (RsV.blk 1 rfl rfl (by rw[VV,Xj]))):α:=x
abbrev VB(x:α:=by exact (4,.int .i64 (i:Int))):α:=x
abbrev Qk8(x:α:=by exact [.string ⟨name.toArray⟩,.int .i64 7,.slice Ab bs.length cb,.int .i64 size,.bool big,.int .i64 mn,.int .i64 mx,.int .i64 stop,.int .i64 count,.int .i64 elem,.slice An names.length cn,.slice (some ⟨bp,op,none⟩) parts.length cp]):α:=x
abbrev Qhu(x:α:=by show parts.length - (i+1)<parts.length - i;omega):α:=x
abbrev Qrk(x:α:=by exact [.blk g (.cells ([.slice Af nn cf,.slice As nn cs,.slice Ad nd cd,.int .i64 (p:Int)]:List Value).toArray 60 (0,0))]):α:=x
abbrev Qgi(x:α:=by exact (J9 _ _ _ rfl rfl rfl (fun w hw=>(HNC.out w (H.out.nextW hw 2 3 rfl rfl)).mono (fun e w' h=>Q9f 2 3 Q1 hw rfl rfl (fun x hx=>by cases hx) h)))):α:=x
abbrev Y6(x:α:=by exact (11,.pointer (some ⟨b11,0,none⟩))):α:=x
abbrev Qcz(x:α:=by exact (Ql (f:=105) rfl rfl Q1 rfl rfl (fun w hw=>by rw[<- HL.out];exact QaH _ _ w) (v:=.int .i64 L))):α:=x
abbrev Qhp(x:α:=by exact (Q9W rfl rfl Q1 rfl rfl rfl QT)):α:=x
abbrev Qdw(x:α:=by exact (Yz rfl rfl Q1 rfl rfl rfl (by first|exact beq_iff_eq.2 Q3|exact beq_eq_false_iff_ne.2 Q3|rfl))):α:=x
abbrev Ve(x:α:=by exact (Qm.sel [2] Q1 rfl)):α:=x
abbrev Qjv(x:α:=by exact [.string ⟨name.toArray⟩,.int .i64 kind,.slice Ab bs.length cb,.int .i64 size,.bool big,.int .i64 mn,.int .i64 mx,.int .i64 stop,.int .i64 count,.int .i64 elem,.slice An names.length cn,.slice Ap parts.length cp]):α:=x
abbrev QoI(x:α:=by exact [.string ⟨name.toArray⟩,.int .i64 10,.slice Ab bs.length cb,.int .i64 size,.bool big,.int .i64 mn,.int .i64 mx,.int .i64 stop,.int .i64 count,.int .i64 elem,.slice An names.length cn,.slice Ap parts.length cp]):α:=x
abbrev Zc(x:α:=by exact (fun w hw=>hw)):α:=x
abbrev Q7E(x:α:=by rw[Bool.and_eq_false_iff,decide_eq_false_iff_not,decide_eq_false_iff_not];omega):α:=x
abbrev Q4Y(x:α:=by show parts.length - (j+1)<parts.length - j;omega):α:=x
abbrev Q2b(x:α:=by exact (Q4n rfl rfl Q1 rfl rfl (by rw[Tryz.underlying3];rfl) Tryz.underlying5 hcv)):α:=x
abbrev Qm0(x:α:=by exact (Ql (f:=95) rfl rfl Q1 rfl rfl (fun w hw=>Calls.stay (Xo _ _ _ w)))):α:=x
abbrev QfY(x:α:=by exact (Q06 rfl rfl Q1 rfl rfl rfl (by exact decide_eq_true Q3))):α:=x
abbrev Qs5(x:α:=by exact (.cells [.int .i64 0,.int .i64 0].toArray 32 (0,0))):α:=x
abbrev QgH(x:α:=by exact (Qab (fun _:Unit=>.tuple #[]) (fun _=>True) (fun _=>_) rfl rfl rfl rfl (fun w hw=>Qhv (i:=0) rfl Q3 Q3 Q3 hw))):α:=x
abbrev Qbg(x:α:=by exact (1,.agg #[.int .i64 d.k,.int .i64 d.n,.slice Abv nb cbv,.slice Anv nnv cnv,.slice Apv l.len cpv])):α:=x
abbrev Q1Q(x:α:=by exact Up.cell (Qis _ _ _ _) ⟨_,JN _ _⟩):α:=x
abbrev Q5m(x:α:=by exact (HF.out.on hw.k.below)):α:=x
abbrev Q4A(x:α:=by exact Q7 mc4 rfl (.tmp rfl) (fun w hw=>QN rfl hw)):α:=x
abbrev VX(x:α:=by exact (show 0<nn by omega)):α:=x
abbrev QcV(x:α:=by exact ⟨Qv7 hu,by (try simp only[List.length_append,List.length_cons,List.length_nil]);omega⟩):α:=x
abbrev Qt0(x:α:=by exact #[.int .i64 0,.int .i64 0,.slice none 0 0,.slice none 0 0,.slice none 0 0]):α:=x
abbrev Q07(x:α:=by exact (List.mem_of_getElem? hx)):α:=x
abbrev QgX(x:α:=by exact Q7 mc4 rfl (.tmp rfl) (fun w hw=>Qr rfl hw)):α:=x
abbrev Q4D(x:α:=by exact Q2 (show ns.all QA=false by simpa using hall)):α:=x
abbrev Q2P(x:α:=by exact (some ⟨bf,0,none⟩)):α:=x
abbrev Qg2(x:α:=by exact (RsV.blk 2 rfl rfl rfl)):α:=x
abbrev Qgx(x:α:=by exact ⟨by rw[HPC.out,List.append_nil],by (try simp only[List.length_append,List.length_cons,List.length_nil]);omega⟩):α:=x
abbrev QfV(x:α:=by show Wd [] W [.row z.1 (i+1) z.2 3 1 (iv (ZH F old (i+1))),_] w;rw[<- HST.out,H6.out,<- Q3s];exact hw.tl.tl.tl):α:=x
abbrev Qh3(x:α:=by exact (1,.agg (ruC r (.slice Ab r.bs.length cb) (.slice An r.names.length cn) (.slice Ap r.parts.length cp)).toArray)):α:=x
abbrev Qrd(x:α:=by exact (VJ (xs:=[(0,.const (.int .u8 2)),(1,.const (.int .u8 5)),(2,.const (.int .u8 0)),(3,.const (.int .u8 6)),(4,.const (.int .u8 0))]) (vs:=[(0,.int .u8 2),(1,.int .u8 5),(2,.int .u8 0),(3,.int .u8 6),(4,.int .u8 0)]) (cells:=bv exD) rfl rfl rfl (Q9S Q1 (by rintro⟨l⟩ h;match l,h with|[z0,z1,z2,z3,z4],_=>rfl)))):α:=x
abbrev YT(x:α:=by exact (Qqq rfl rfl rfl rfl)):α:=x
abbrev QsK(x:α:=by exact (Ql rfl rfl Q1 rfl rfl (fun w hw=>(Q1N _ _ w).mono (fun e w2 h=>⟨h.1,h.2▸JN _ _⟩)))):α:=x
abbrev Qn1(x:α:=by exact (Q0U 2 rfl rfl rfl rfl rfl rfl rfl Qn)):α:=x
abbrev Yx(x:α:=by simp only;omega):α:=x
abbrev Qs8(x:α:=by exact (H.out.next hw.k hp (hw.own 3 _ rfl))):α:=x
abbrev Q94(x:α:=by exact Q2 (show Below w.heap.size w w2 from X9 (Q39 _ _ _) hb2)):α:=x
abbrev Q4R(x:α:=by exact (fun _=>.inr Q76)):α:=x
abbrev Kj(x:α:=by exact (hw.own 0 _ rfl)):α:=x
abbrev Q1O(x:α:=by exact fun y:Up W1=>Up.cell (hc 11 _ rfl) y):α:=x
abbrev Q1Y(x:α:=by exact fun y:Up W1=>Up.cell (hc 10 _ rfl) y):α:=x
abbrev Q54(x:α:=by exact (Zt 3 rfl rfl rfl rfl rfl Q84 Qen Q3)):α:=x
abbrev Yd(x:α:=by exact (Zt 2 rfl rfl rfl rfl rfl Q84 Qen Q3)):α:=x
abbrev Q50(x:α:=by exact (some ⟨b,o,none⟩)):α:=x
abbrev QsU(x:α:=by exact [.blk g (.cells ([.slice Vz nn cf,.slice As nn cs,.slice Ad nd cd,.int .i64 (p:Int)]:List Value).toArray 60 (0,0))]):α:=x
abbrev Qqr(x:α:=by exact (Ql (f:=54) rfl rfl Q1 rfl rfl (fun w hw=>(Q2O KO HS.out hc Q10).mono QcA))):α:=x
abbrev Q1z(x:α:=by exact (fun T=>[Yp,(3,.string ⟨(T).toArray⟩),VB,Q0k])):α:=x
abbrev Yq(x:α:=by exact (0,.pointer Q6S)):α:=x
abbrev Yj(x:α:=by exact (.cons rfl rfl mc2)):α:=x
abbrev Jf(x:α:=by exact (.cons rfl rfl Q6G)):α:=x
abbrev QbB(x:α:=by exact (.cells ([.slice Vz nn cf,.slice A xs.length c,.int .i64 (n+1:Int)]:List Value).toArray 77 (0,0))):α:=x
abbrev Qn3(x:α:=by exact (Ql rfl rfl Q1 rfl rfl (fun w hw=>(Vs Q5m HS.out hc Q10).mono (fun e w' h=>by rw[HZ.out] at h;exact h)))):α:=x
abbrev Qsw(x:α:=by exact (.cells ([.pointer Q6S]:List Value).toArray 56 (0,0))):α:=x
abbrev Q1E(x:α:=by exact IntWalk.i64_in _ Q3):α:=x
abbrev Q64(x:α:=by exact (fun _ _ h=>by rw[H3.out] at h;exact h)):α:=x
abbrev KW(x:α:=by exact (.cons rfl rfl Qa7)):α:=x
abbrev QbP(x:α:=by exact (Q06 rfl rfl Q1 rfl rfl rfl (by first|exact decide_eq_false Q3|rfl))):α:=x
abbrev Q0a(x:α:=by exact (.cons rfl (by go_num) .nil)):α:=x
abbrev Qbj(x:α:=by exact [QtW,(1,.pointer (some ⟨h,0,none⟩)),(2,.pointer (some ⟨gf,0,none⟩))]):α:=x
abbrev Q1Z(x:α:=by exact fun y:Up W1=>Up.cell (hc 9 _ rfl) y):α:=x
abbrev Q2c(x:α:=by exact fun y:Up W1=>Up.cell (hc 8 _ rfl) y):α:=x
abbrev Q20(x:α:=by exact fun y:Up W1=>Up.cell (hc 7 _ rfl) y):α:=x
abbrev Q1C(x:α:=by exact fun y:Up W1=>Up.cell (hc 6 _ rfl) y):α:=x
abbrev Q25(x:α:=by exact fun y:Up W1=>Up.cell (hc 5 _ rfl) y):α:=x
abbrev Q1K(x:α:=by exact fun y:Up W1=>Up.cell (hc 4 _ rfl) y):α:=x
abbrev Q1S(x:α:=by exact fun y:Up W1=>Up.cell (hc 3 _ rfl) y):α:=x
abbrev Q1W(x:α:=by exact fun y:Up W1=>Up.cell (hc 2 _ rfl) y):α:=x
abbrev Q1B(x:α:=by exact fun y:Up W1=>Up.cell (hc 1 _ rfl) y):α:=x
abbrev Q1I(x:α:=by exact fun y:Up W1=>Up.cell (hc 0 _ rfl) y):α:=x
abbrev Q3A(x:α:=by exact (VI 2 rfl rfl rfl rfl rfl rfl rfl)):α:=x
abbrev QkD(x:α:=by exact (Ql rfl rfl Q1 rfl rfl (fun w hw=>Yc w))):α:=x
abbrev JH(x:α:=by go_ret;exact⟨rfl,rfl⟩):α:=x
abbrev Kb(x:α:=by exact (RsV.blk 0 rfl rfl rfl)):α:=x
abbrev Kf(x:α:=by exact .inl rfl):α:=x
abbrev Qo7(x:α:=by simp only[Rows.uptoBulk];simp only[lits,List.length_map,List.length_take] at h1;simp only[lits];omega):α:=x
abbrev Qro(x:α:=by rw[if_neg Q3,if_neg Q3,if_neg Q3,if_neg Q3,if_neg Q3,if_neg Q3,if_pos h]):α:=x
abbrev Qsc(x:α:=by exact [.blk b3 (.cells ([.int .i64 dk',.int .i64 dn',.slice Ab' nb' cb',.slice An' nn' cn',.slice Ap' L cp']:List Value).toArray 30 (0,0)),.blk b2 (.cells ([.int .i64 dk,.int .i64 dn,.slice Ab nb cb,.slice An nn cn,.slice Ap L cp]:List Value).toArray 30 (0,0))]):α:=x
abbrev Qmk(x:α:=by exact (Zt 3 rfl rfl rfl rfl rfl (fun w hw=>(HRB.out.below (H.out.below hw.k)).more (by have:=hw.k.size;omega)) (ZX _) Q3)):α:=x
abbrev Qgp(x:α:=by exact (Q6D rfl rfl Q1 rfl rfl rfl rfl)):α:=x
abbrev Q5d(x:α:=by exact (Q1b (t:=32) rfl rfl)):α:=x
abbrev Q1M(x:α:=by exact (List.mem_cons_of_mem _ hx)):α:=x
abbrev QrO(x:α:=by exact (.cells (QuO:List Value).toArray 65 (0,0))):α:=x
abbrev QnB(x:α:=by exact (X4 rfl rfl Q1 rfl rfl (by exact fun w hw=>hw.range_blk 0 rfl) (by rfl))):α:=x
abbrev Q0H(x:α:=by exact (1,.int .i64 (k:Int))):α:=x
abbrev Zd(x:α:=by exact (Qm.sel [1,2,3] Q1 rfl)):α:=x
abbrev QsY(x:α:=by exact [.string ⟨name.toArray⟩,.int .i64 kind,.slice Ab bs.length cb,.int .i64 size,.bool big,.int .i64 mn,.int .i64 mx,.int .i64 stop,.int .i64 count,.int .i64 elem,.slice An ([]:List (List UInt8)).length cn,.slice Ap parts.length cp]):α:=x
abbrev QqU(x:α:=by exact (Qns Tryz.underlying9 rfl rfl Q1 rfl rfl)):α:=x
abbrev QcC(x:α:=by exact (Z5 rfl rfl Q1 rfl rfl rfl QT)):α:=x
abbrev KP(x:α:=by rw[hsz];omega):α:=x
abbrev Vg(x:α:=by exact (.cons rfl rfl mc1)):α:=x
abbrev Q24(x:α:=by exact fun y:Up W1=>Up.cell hc14 y):α:=x
abbrev Q1A(x:α:=by exact fun y:Up W1=>Up.cell hc13 y):α:=x
abbrev QbG(x:α:=by exact (Q6l rfl rfl Q1 rfl rfl rfl)):α:=x
abbrev Qo1(x:α:=by exact (Xz rfl rfl Q1 rfl rfl (by exact fun w hw=>hw.cell_blkL 0 rfl rfl))):α:=x
abbrev Qgf(x:α:=by exact (Yz rfl rfl Q1 rfl rfl rfl (by first|exact beq_iff_eq.2 Q3|rfl))):α:=x
abbrev Q1D(x:α:=by rw[HLEN.out];exact hkn):α:=x
abbrev Qs7(x:α:=by exact fun(w:World) (hw:XV w ⟨some ⟨bf,of,none⟩,nn,cf⟩ B g F A c xs (n+1))=>Q6j hw (sb:=.slice Ab2 r2.bs.length cb2) (sn:=.slice An2 r2.names.length cn2) (sp:=.slice Ap2 r2.parts.length cp2) hNO hcnt Q3):α:=x
abbrev QmF(x:α:=by rw[if_neg Q3,if_neg Q3,if_neg Q3,if_neg Q3,if_neg Q3,if_pos h]):α:=x
abbrev KV(x:α:=by exact ⟨w.heap.size,0,none⟩):α:=x
abbrev Qd1(x:α:=by exact (Q9q rfl rfl Q1 rfl rfl rfl)):α:=x
abbrev Q6T(x:α:=by exact (QG rfl rfl Q1 rfl rfl rfl hxn)):α:=x
abbrev QsS(x:α:=by exact (VN rfl rfl Q1 rfl rfl rfl (fun w hw=>QbJ (HFM.out.below (hw.k.below.mono hBW)) (by have:=hw.k.size;omega) (hw.cell_blkL 2 rfl rfl) (hw.cell_blkL 1 rfl rfl) (hw.cell_old hcg Qn) HCT.out))):α:=x
abbrev Q1G(x:α:=by exact (fun _=>.inr (Qm.sel [2,3] Q1 rfl))):α:=x
abbrev Qhx(x:α:=by exact (Ql (f:=133) rfl rfl Q1 rfl rfl (fun w hw=>Q2w _ w hnm))):α:=x
abbrev Q59(x:α:=by exact Q2 (Qfg HN6.out HALL.out)):α:=x
abbrev QqP(x:α:=by exact Q2 (show ROk n rk by have:=HF.out k rk hrk;rwa [HLEN.out] at this)):α:=x
abbrev Q7t(x:α:=by exact (.cons rfl (by go_num) Qa7)):α:=x
abbrev QfT(x:α:=by exact (.cells (QuB:List Value).toArray 65 (0,0))):α:=x
abbrev QrT(x:α:=by exact fun(w:World) (hw:XV w ⟨some ⟨bf,of,none⟩,nn,cf⟩ B g F A c xs (n+1))=>Q6j hw (sb:=.slice Ab bs.length cb) (sn:=.slice An names.length cn) (sp:=.slice Ap parts.length cp) hNO hcnt Q3):α:=x
abbrev ZP(x:α:=by exact (ha.eval hx)):α:=x
abbrev Qsn(x:α:=by exact (fun x hx=>by rw[<- HE.out,hx];rfl)):α:=x
abbrev Qmq(x:α:=by simp [Builtin.append_,run_underlying hT.und,sizeOf,typeInfo,hi,Builtin.lenOf,Builtin.firstCells,hnc,storeCells]):α:=x
abbrev Qkt(x:α:=by exact (Ql (f:=28) rfl rfl Q1 rfl rfl (fun w hw=>(Vs KO HS.out hc Q10).mono QcA))):α:=x
abbrev Y0(x:α:=by exact (fun _ hw=>hw.tl)):α:=x
abbrev Q9m(x:α:=by rw[<- XU hg];simp only;omega):α:=x
abbrev Qnh(x:α:=by exact (QqC rfl rfl Q1 rfl rfl)):α:=x
abbrev Q5l(x:α:=by exact (hb1.cell Qn).trans Qn):α:=x
abbrev QgK(x:α:=by exact #[.pointer (some ⟨b4,0,none⟩),.pointer (some ⟨b5,0,none⟩)]):α:=x
abbrev Qct(x:α:=by simp [results,Tryz.results16,go_sem,r0,r1,z4]):α:=x
abbrev Q6K(x:α:=by exact ⟨hjn,by omega,by omega,H2.out⟩):α:=x
abbrev QqZ(x:α:=by exact (Ql (f:=57) rfl rfl Q1 rfl rfl (fun w hw=>Qdx w))):α:=x
abbrev QqS(x:α:=by exact (fun w hw=>(Q5S (HO.out.on hw.k.below) hcn).mono fun e w' hq=>⟨by rw[hq.1,H1.out],hq.2⟩)):α:=x
abbrev QoJ(x:α:=by exact (.cells ([.slice Af nn cf,.slice A xs.length c,.int .i64 (n:Int)]:List Value).toArray 77 (0,0))):α:=x
abbrev Q4X(x:α:=by rw[HLEN.out] at hj;omega):α:=x
abbrev Qky(x:α:=by exact ⟨⟨by decide,by decide,by decide,by decide⟩,by decide,by decide,fun x hx=>by cases hx⟩):α:=x
abbrev QhE(x:α:=by exact (Q6D rfl rfl Q1 rfl rfl rfl hne)):α:=x
abbrev Jh(x:α:=by exact (ha.want hw)):α:=x
abbrev JU(x:α:=by exact hb):α:=x
abbrev Qg0(x:α:=by have:=hs.name;show r.name.toArray.size<=_;rw[List.size_toArray];omega):α:=x
abbrev Q4M(x:α:=by rw[HLEN.out];exact hn40):α:=x
abbrev Q6I(x:α:=by go_ret;exact⟨by rw[HK.out];rfl,rfl⟩):α:=x
abbrev Qqp(x:α:=by rw[if_neg Q3,if_neg Q3,if_neg Q3,if_neg Q3,if_pos h]):α:=x
abbrev Q5n(x:α:=by exact (hw.own 1 _ rfl)):α:=x
abbrev Q8Y(x:α:=by go_ret;exact⟨rfl,X9 (Q39 _ _ _) hb2⟩):α:=x
abbrev Qdu(x:α:=by exact List.mem_singleton.2 rfl):α:=x
abbrev Q52(x:α:=by rw[HLEN.out];exact hn0):α:=x
abbrev QsI(x:α:=by exact XB () [0,1,2,3] Q1 trivial (.cons rfl rfl (.cons rfl rfl (.cons rfl rfl (.cons rfl rfl (.cons rfl rfl (.cons rfl rfl (.cons rfl (by rw[hb];rfl) .nil))))))) rfl):α:=x
abbrev QrF(x:α:=by exact (0,.agg [.string ⟨name.toArray⟩,.int .i64 kind,sb,.int .i64 size,.bool big,.int .i64 mn,.int .i64 mx,.int .i64 stop,.int .i64 count,.int .i64 elem,sn,sp].toArray)):α:=x
abbrev Qn5(x:α:=by exact .inr ⟨_,h2,x,hx x h1,rfl,hw.k.thenK hk⟩):α:=x
abbrev Qs1(x:α:=by exact (QY _ _ _ (f:=55) rfl rfl rfl (fun w hw=>QhY HFM.out HF.out hn40 hn0 hw))):α:=x
abbrev Q7s(x:α:=by exact (Qko rfl Q1 rfl)):α:=x
abbrev Qdr(x:α:=by obtain⟨b,n,s⟩:=p;simp [execOp,ho,hx,hc,go_sem]):α:=x
abbrev Qkz(x:α:=by have h:=Nat.le_trans (Nat.le_mul_of_pos_right (n+m) hT.bpos) hbytes;simp only[maxLen];omega):α:=x
abbrev Q4E(x:α:=by exact (Kt h).elim):α:=x
abbrev Q0i(x:α:=by have:=(h.far _ e).1;omega):α:=x
abbrev QcH(x:α:=by exact ⟨rfl,JN _ _⟩):α:=x
abbrev Qqy(x:α:=by exact (Qge rfl rfl Q1 rfl rfl rfl (v:=true) Qn)):α:=x
abbrev QgQ(x:α:=by exact (1,.pointer Q2P)):α:=x
abbrev QlT(x:α:=by exact (.cells ([.slice A n c]:List Value).toArray 24 (0,0))):α:=x
abbrev Qsd(x:α:=by exact (fun _=>[Qf.blk g (.cells [.slice VC ws0.length 2].toArray 27 (0,0)),Qf.row VC ws0.length 2 9 1 (sv ws0),Qf.blk br Q98,Qf.blk bf Q5o])):α:=x
abbrev QbC(x:α:=by exact (fun w hw=>⟨rfl,hw.k.below⟩)):α:=x
abbrev Q28(x:α:=by exact Qi5 _ _ _ _ _):α:=x
abbrev Q3M(x:α:=by exact (1,.int .i64 (b:Int))):α:=x
abbrev Qgw(x:α:=by exact Ag.cons (Ag.nil ha.sz ha.df) (by exact ha.at_ rfl)):α:=x
abbrev QqK(x:α:=by exact (Ql (f:=116) rfl rfl Q1 rfl rfl (fun w hw=>(Q7w KO (HLK.out.on hw.k.below) HSM.out (Qte HOK.out)).mono (fun _ _ h=>h)))):α:=x
abbrev Qnu(x:α:=by simp [results,Tryz.results69,go_sem,r0,r1,z4]):α:=x
abbrev Q9o(x:α:=by exact (List.replicate F.length false)):α:=x
abbrev QjX(x:α:=by rintro v w' ⟨i,rfl,hp,hW'⟩;rw[hd];exact hK _ _ (h i hp _ w' (ha.put _ hN) hW')):α:=x
abbrev Qsv(x:α:=by exact (QY _ _ _ (f:=121) rfl rfl rfl (fun w hw=>Qil HG.out hw Q10))):α:=x
abbrev Qmt(x:α:=by exact (Zt 4 rfl rfl rfl rfl rfl Q84 Qen Q3)):α:=x
abbrev Ql8(x:α:=by exact (Q4j (l:=1) rfl rfl Q1 rfl rfl rfl hlt)):α:=x
abbrev KZ(x:α:=by exact (fun _=>.inr Q0G)):α:=x
abbrev Q9k(x:α:=by exact (beq_eq_false_iff_ne.2 Q3)):α:=x
abbrev Qsx(x:α:=by exact Q2 (show xs.length=n by have:=h.len;rw[Q0o] at this;exact this)):α:=x
abbrev Q56(x:α:=by exact (fun b' hb'=>.inl hb')):α:=x
abbrev Qgu(x:α:=by exact (QY _ _ _ rfl rfl rfl (fun w hw=>Qvy hw))):α:=x
abbrev QrI(x:α:=by exact (Q06 rfl rfl Q1 rfl rfl rfl (by exact decide_eq_false Q3))):α:=x
abbrev Q29(x:α:=by exact (1,.int .i64 k)):α:=x
abbrev QqM(x:α:=by exact (Ql (f:=120) rfl rfl Q1 rfl rfl (fun w hw=>(Q65 (HLK.out.on hw.k.below) HOK.out ((Q7C F).trans HLEN.out) Q5n).mono (fun _ _ h=>h)))):α:=x
abbrev Qo4(x:α:=by exact (QG rfl rfl Q1 rfl rfl rfl Q3)):α:=x
abbrev QgV(x:α:=by exact ⟨h.1,by rw[<- h.2];exact Below.refl _ _⟩):α:=x
abbrev QjZ(x:α:=by exact Q2 (show Below w.heap.size w W1 by rw[<- hW1];exact JN _ _)):α:=x
abbrev QgD(x:α:=by exact [QtW,(1,.slice A m c),(2,.int .i64 (n:Int))]):α:=x
abbrev Qri(x:α:=by show l.length - (i+1)<l.length - i;omega):α:=x
abbrev Q0Z(x:α:=by exact (.inl hkind)):α:=x
abbrev Qt2(x:α:=by exact (Qvm rfl rfl Q1 rfl rfl rfl)):α:=x
abbrev QkZ(x:α:=by exact (Q4h rfl rfl Q1 rfl rfl rfl (by rfl))):α:=x
abbrev Qqk(x:α:=by exact (.cells [.slice Q50 i c].toArray 24 (0,0))):α:=x
abbrev Qrq(x:α:=by exact (Ql (f:=118) rfl rfl Q1 rfl rfl (fun w hw=>(QeH Kj ((ZQ F).trans HLEN.out) hsz).mono (fun _ _ h=>h)))):α:=x
abbrev QsX(x:α:=by exact [(0,.agg #[a0,.int .i64 5,.slice Ab nb cb,.int .i64 size,.bool big,.int .i64 mn,.int .i64 mx,.int .i64 stop,a8,a9,a10,a11])]):α:=x
abbrev KR(x:α:=by exact (fun _ hw=>hw)):α:=x
abbrev Q0u(x:α:=by exact ⟨name.toArray⟩):α:=x
abbrev QqV(x:α:=by exact ⟨_,(Array.toArray_toList).symm,by simp⟩):α:=x
abbrev QgA(x:α:=by exact (Jc rfl rfl Q1 rfl rfl rfl hqn)):α:=x
abbrev Ka(x:α:=by exact hB):α:=x
abbrev Q5i(x:α:=by exact (H.out.below hw.k)):α:=x
abbrev Qht(x:α:=by rw[<- HC.out];simp [Xs,hk1,hk7,hk8,h1,h2,h3,h4]):α:=x
abbrev YX(x:α:=by exact (Xj _)):α:=x
abbrev QhF(x:α:=by exact (6,.func (.func 122) #[] #[.pointer Q6S])):α:=x
abbrev QgJ(x:α:=by go_ret;exact⟨by rw[HK.out];rfl,Below.refl _ _⟩):α:=x
abbrev Q9b(x:α:=by have:=hw.k.size;omega):α:=x
abbrev QrK(x:α:=by show Wd [] W [.row z.1 (i+1) z.2 3 1 (iv (ZH F old (i+1))),_] w;rw[<- HST.out,H6.out,<- HS2.out,<- Q3s];exact hw.tl.tl):α:=x
abbrev QqH(x:α:=by exact (Q0B rfl rfl Q1 rfl rfl rfl QT)):α:=x
abbrev Q7I(x:α:=by rw[HNP.out];omega):α:=x
abbrev Q78(x:α:=by exact (HV.out.on hw.k.below)):α:=x
abbrev QkW(x:α:=by exact (QoF rfl rfl Q1 rfl rfl)):α:=x
abbrev Qsh(x:α:=by exact (QjG rfl rfl Q1 rfl rfl)):α:=x
abbrev Q22(x:α:=by exact (fun _=>.inr (Qm.sel [3,4] Q1 rfl))):α:=x
abbrev Qh4(x:α:=by rw[<- HC.out];simp [Xs,hk1,hk7,hk8,h1,h2,h3]):α:=x
abbrev Qgl(x:α:=by exact ⟨name,3,bs,size,big,mn,mx,stop,count,elem,names,parts⟩):α:=x
abbrev QmG(x:α:=by exact ⟨name,2,bs,size,big,mn,mx,stop,count,elem,names,parts⟩):α:=x
abbrev Q7c(x:α:=by simp [hx]):α:=x
abbrev Qrf(x:α:=by simp only[ho];exact .inr ⟨hw,Empty,fun i=>i.elim,fun i=>i.elim,fun w h=>absurd ⟨w,h⟩ hne,fun i=>i.elim,fun i=>i.elim⟩):α:=x
abbrev Qrp(x:α:=by exact ⟨by rw[List.append_assoc];rfl,by (try simp only[List.length_append,List.length_cons,List.length_nil]);omega⟩):α:=x
abbrev QsM(x:α:=by exact Q0V (J9 _ _ _ rfl rfl rfl (fun w hw=>Q7v hw (fun w' hw'=>⟨p,HE.out,rfl,hw'.k⟩))) rfl Q1 (fun i=>i.elim)):α:=x
abbrev Qhi(x:α:=by exact (VI 3 rfl rfl rfl rfl rfl rfl rfl)):α:=x
abbrev Qho(x:α:=by exact (VI 1 rfl rfl rfl rfl rfl rfl rfl)):α:=x
abbrev Q4S(x:α:=by exact (.inr hkind)):α:=x
abbrev QqF(x:α:=by exact (.cells ([.slice Q50 i c]:List Value).toArray 24 (0,0))):α:=x
abbrev Qsa(x:α:=by obtain⟨rfl,_,rfl⟩:=hv;simp [Builtin.append_,run_underlying hT.und,sizeOf,typeInfo,hi,Builtin.lenOf,Builtin.firstCells]):α:=x
abbrev Qsu(x:α:=by exact (Ql (f:=117) rfl rfl Q1 rfl rfl (fun w hw=>(QaS KO HF.out hn40 hkn).mono (fun _ _ h=>h)))):α:=x
abbrev Qgm(x:α:=by exact ⟨hct.1,by rw[<- hFn];exact hct.2⟩):α:=x
abbrev Q8N(x:α:=by exact (HV.out.on (Q39 _ _ _))):α:=x
abbrev Q5c(x:α:=by exact (2,.pointer Q2P)):α:=x
abbrev QmC(x:α:=by rw[<- QbY,HTQ.out,HSQ.out,Nat.zero_add,Nat.mul_one];rfl):α:=x
abbrev QsQ(x:α:=by show Wd [] W [.row z.1 (i+1) z.2 3 1 (iv (ZH F old (i+1))),_] w;rw[<- HST.out,H6.out,<- Q3s];exact hw.tl.tl):α:=x
abbrev Qlm(x:α:=by exact (.cons rfl rfl (.cons rfl rfl KW))):α:=x
abbrev QfW(x:α:=by rw[<- HC.out];simp [Xs,hk1,hk7,hk8,h1,h2]):α:=x
abbrev Qs4(x:α:=by exact (Ql rfl rfl Q1 rfl rfl (fun w hw=>(Km _ _ w).mono (fun e w2 h=>⟨h.1,h.2▸JN _ _⟩)))):α:=x
abbrev QjF(x:α:=by exact (some ⟨bp,op,none⟩)):α:=x
abbrev Qd6(x:α:=by exact (fun _=>True)):α:=x
abbrev QbA(x:α:=by exact (Qm.sel [3] Q1 rfl)):α:=x
abbrev Qqt(x:α:=by obtain⟨j,h1,h2,h3,h4⟩:=hq;exact⟨m j,h2,j,h1,rfl,h3,h4⟩):α:=x
abbrev Qhw(x:α:=by exact List.eq_nil_of_length_eq_zero Q3):α:=x
abbrev Q1V(x:α:=by exact (fun _=>mc0)):α:=x
abbrev Qjp(x:α:=by simp only[List.map_cons,List.sum_cons,List.length_cons];omega):α:=x
abbrev QsL(x:α:=by exact (Ql (f:=35) rfl rfl Q1 rfl rfl (fun w hw=>(Qdn KO HS.out hkn HK.out).mono QcA))):α:=x
abbrev Qr1(x:α:=by exact Q2 (QmI (VF.all_drop HALL.out i) hdr (XD.drop p i HFP.out) (YA.drop p i HGP.out) hl')):α:=x
abbrev Qcv(x:α:=by exact absurd h Q1):α:=x
abbrev Q9d(x:α:=by simp;omega):α:=x
abbrev Qqv(x:α:=by show 256 - (i+1)<256 - i;omega):α:=x
abbrev QmM(x:α:=by exact (List.mem_cons_of_mem _ hy)):α:=x
abbrev QfX(x:α:=by exact (7,.pointer (some ⟨b7,0,none⟩))):α:=x
abbrev Qqg(x:α:=by rw[if_neg Q3,if_neg Q3,if_neg Q3,if_neg Q3,if_neg Q3,if_neg Q3,if_neg Q3,if_pos h]):α:=x
abbrev Qh7(x:α:=by injection h with h;subst h;rw[Addr.add_mid];exact hc j u hu):α:=x
abbrev QsN(x:α:=by exact [Q1v,(5,.slice Q0w n n),(6,.slice VC 256 256),(7,.int .i64 (q:Int)),(8,.int .i64 (i:Int))]):α:=x
abbrev QrP(x:α:=by exact (Qsi rfl rfl Q1 rfl rfl rfl)):α:=x
abbrev Qh2(x:α:=by exact (.inr ⟨by simpa using hw,rfl⟩)):α:=x
abbrev Qgg(x:α:=by rw[<- HC.out];simp [Xs,hk1,hk7,hk8,h1]):α:=x
abbrev Qr2(x:α:=by exact (Zt 1 rfl rfl rfl rfl rfl Q84 Qen Q3)):α:=x
abbrev Qru(x:α:=by exact (Yz rfl rfl Q1 rfl rfl rfl (by first|assumption|exact beq_eq_false_iff_ne.2 Q3|rfl))):α:=x
abbrev QkP(x:α:=by exact (Ql rfl rfl Q1 rfl rfl (fun w hw=>hcc w))):α:=x
abbrev Qcy(x:α:=by exact (fun w hC=>hr w hC i v hv)):α:=x
abbrev Qd2(x:α:=by rw[HNP.out];exact hlt):α:=x
abbrev QbZ(x:α:=by exact (List.mem_of_getElem? hrk)):α:=x
abbrev QlZ(x:α:=by go_ret;exact⟨by rw[<- HF.out];simp [QH],HB2.out⟩):α:=x
abbrev Qst(x:α:=by exact (fun h0=>by obtain⟨b,o,h1,h2,h3⟩:=HCH.out h0;exact⟨b,o,h1,h2,h3.below h2 Q5i Xr⟩)):α:=x
abbrev Q3w(x:α:=by exact (Nat.succ_pos _)):α:=x
abbrev Qga(x:α:=by exact ⟨hkn,K0 HA.out HRK.out⟩):α:=x
abbrev Qqs(x:α:=by exact Zi Kf rfl (fun w hw=>Ye H.out 3 4 (b:=dbs++[sB]) hw rfl rfl HZ.out Q3 Q3)):α:=x
abbrev Q3a(x:α:=by exact (hcl.set hr')):α:=x
abbrev Q8O(x:α:=by exact (hB.symm.trans h0)):α:=x
abbrev Q31(x:α:=by exact (h a w ha hw)):α:=x
abbrev Q9a(x:α:=by exact (3,.pointer Q0w)):α:=x
abbrev Q8S(x:α:=by exact (.cons rfl rfl Yj)):α:=x
abbrev QqQ(x:α:=by rintro e' u' w8 ⟨rfl,rfl,rfl⟩;exact⟨_,QpH rfl (VO ha hw h4) (VO ha hw h5),hR _ hw⟩):α:=x
abbrev Qrj(x:α:=by exact (Ql (f:=89) rfl rfl Q1 rfl rfl (fun w hw=>(Qdm KO HS.out hc).mono QcA))):α:=x
abbrev Q4O(x:α:=by exact (zi (hj:=hkn))):α:=x
abbrev QnI(x:α:=by exact (Q1b (t:=65) rfl rfl)):α:=x
abbrev Qlh(x:α:=by rw[<- HSET.out,HST.out];rw[Nat.zero_add] at hw;exact hw):α:=x
abbrev Qrv(x:α:=by exact ⟨h1,h4,fun x hx=>⟨h5.rd x hx,fun b hb=>Nat.le_trans hw.k.size (h5.far x hx b hb)⟩⟩):α:=x
abbrev Qs9(x:α:=by exact [Yq,(1,.pointer (some ⟨k,0,none⟩)),(5,.iface 32 (.agg #[.int .i64 c,.int .i64 x]))]):α:=x
abbrev QrL(x:α:=by exact ((Below.refl _ _).alloc Xr _)):α:=x
abbrev Qgt(x:α:=by exact ⟨rfl,rfl,rfl,Nat.le_refl _,fun _ _ _=>rfl⟩):α:=x
abbrev QnX(x:α:=by exact (Z3 1 rfl rfl rfl rfl rfl rfl Q3)):α:=x
abbrev QsB(x:α:=by exact (QY _ _ _ (f:=97) rfl rfl rfl (fun w hw=>Q9h (n:=F.length) HLK.out HOK.out hw))):α:=x
abbrev Qqm(x:α:=by exact (fun b' hb'=>by simp only[Qf.foot] at hb';rw[if_neg Q3] at hb';cases hb';exact h1)):α:=x
abbrev Q8I(x:α:=by exact (5,.slice VC n n)):α:=x
abbrev QrS(x:α:=by unfold Zo;rw[if_neg Q3,if_neg Q3,if_neg Q3,if_neg Q3,if_neg Q3,if_neg Q3]):α:=x
abbrev Qrg(x:α:=by exact ⟨rfl,by (try simp only[List.length_append,List.length_cons,List.length_nil]);omega⟩):α:=x
abbrev QjT(x:α:=by exact Q2 ((hp.below HB1.out).more HB1.out.size)):α:=x
abbrev Ql5(x:α:=by exact (Qf0 rfl rfl rfl rfl Q3)):α:=x
abbrev Qor(x:α:=by exact (J6 rfl rfl Q1 rfl rfl rfl hx)):α:=x
abbrev QkY(x:α:=by exact (QG rfl rfl Q1 rfl rfl rfl hcn)):α:=x
abbrev Q5a(x:α:=by exact (hw.own i _ hO)):α:=x
abbrev QlL(x:α:=by rw[<- HC.out];simp [Xs,hk1,hk7,hk8,h1,h2,h3,h4,h6]):α:=x
abbrev QsF(x:α:=by exact Qx (i+1,z2.1,z2.2) hlt (by show sz - (i+1)<sz - i;omega) Yj (fun w hw=>hw.tl)):α:=x
abbrev Qsf(x:α:=by exact Zi Kf rfl (fun w hw=>Ye H.out 2 3 (b:=uy) hw rfl rfl HZ.out Q3 Q3)):α:=x
abbrev Qku(x:α:=by exact ⟨Qvt _ _ _ _,.inl ⟨_,_,HC.out,rfl⟩⟩):α:=x
abbrev Qra(x:α:=by exact [.blk b2 (.cells cur2.toArray 3 (0,0)),.row VC n n 4 1 (XN seen),.blk bf Q5o]):α:=x
abbrev Qso(x:α:=by exact .inr ⟨hw,ι,V,G,hr1,hG,fun x=>go _ _ (hG x).1 ((hG x).2.resolve_left hjT) (hk x)⟩):α:=x
abbrev Qol(x:α:=by exact (Xc rfl rfl Q1 rfl rfl rfl hkn)):α:=x
abbrev QkF(x:α:=by exact (.cells (Qs2:List Value).toArray 65 (0,0))):α:=x
abbrev Qsj(x:α:=by exact (J4 (size:=1) (cs:=[.int .u8 ((dgc m).toNat:Int)]) rfl rfl rfl rfl rfl Q1)):α:=x
abbrev QqD(x:α:=by exact (QY _ _ _ (f:=37) rfl rfl rfl (fun w hw=>Q6R HFM.out HF.out hn40 hkn hw))):α:=x
abbrev QsR(x:α:=by exact (QY _ _ _ (f:=119) rfl rfl rfl (fun w hw=>Qic HFM.out HF.out hn40 hn0 hw))):α:=x
abbrev Qoi(x:α:=by exact ⟨rfl,fun h=>absurd h (Nat.lt_irrefl _)⟩):α:=x
abbrev QrC(x:α:=by exact ⟨by rw[HLE.out,HR.out],Kv (Z0 (X9 HB2.out HBR.out) Q3 _ _) _⟩):α:=x
abbrev QrH(x:α:=by exact ⟨by rw[HLE.out,HR.out],Kv (Z0 (X9 HB2.out HB3.out) Q3 _ _) _⟩):α:=x
abbrev Qnl(x:α:=by exact (Z3 0 rfl rfl rfl rfl rfl rfl hst)):α:=x
abbrev Qr6(x:α:=by exact (fun n hn=>hwz n (List.mem_of_mem_take hn))):α:=x
abbrev Q8Z(x:α:=by simpa using hy):α:=x
abbrev QrY(x:α:=by exact ⟨by rw[HT.out];rfl,HBW.out.trans ⟨rfl,rfl,rfl,Nat.le_refl _,fun _ _=>rfl⟩⟩):α:=x
abbrev Qk3(x:α:=by rw[<- HI.out,Q68 hlt (by rw[hv];decide),hv]):α:=x
abbrev QjE(x:α:=by rw[<- HI.out,Q68 hin (by rw[hv];decide),hv]):α:=x
abbrev QrW(x:α:=by exact YS (A:=[]) (R:=[]) B A (Z.drop A.length) (by rw[List.length_drop];omega)):α:=x
abbrev QsA(x:α:=by exact if_neg (fun h=>hk (by rw[Bool.and_eq_true,beq_iff_eq,beq_iff_eq] at h;exact h))):α:=x
abbrev QqO(x:α:=by exact (inferInstance:Sl Tryz.prog 28 30 5 88).h):α:=x
abbrev QkJ(x:α:=by have h:=Nat.le_trans (Nat.le_mul_of_pos_right (n+1) hT.bpos) hbytes;simp only[maxLen];omega):α:=x
abbrev Qly(x:α:=by exact Qbm (lits (H:=H) .u8 (zs.take len))):α:=x
abbrev Qkq(x:α:=by exact (Qge rfl rfl Q1 rfl rfl rfl rfl)):α:=x
abbrev Qe5(x:α:=by simp only[List.length_cons,List.length_nil];omega):α:=x
abbrev QdK(x:α:=by rw[List.length_replicate] at this;exact this.symm):α:=x
abbrev QoH(x:α:=by exact (fun _=>[.blk b3 (.cells (Qrw:List Value).toArray 65 (0,0)),.blk b2 Q1s])):α:=x
abbrev Qjk(x:α:=by exact ⟨(Z0 HPB.out Q3 _ _).drew,.inl ⟨c,ix,HC.out,HF.out,rfl⟩⟩):α:=x
abbrev Qjz(x:α:=by exact (VI 0 rfl rfl rfl rfl rfl rfl rfl)):α:=x
abbrev Qfz(x:α:=by exact (VI 0 rfl rfl rfl rfl rfl rfl hc0)):α:=x
abbrev QjW(x:α:=by exact Q2 (show Rd W W.heap.size 1 Ap r.parts.length (iv r.parts) from hru.p)):α:=x
abbrev QmD(x:α:=by exact [Q1v,(5,.slice Q0w n n),(6,.slice VC 256 256),(7,.int .i64 (q:Int))]):α:=x
abbrev Vp(x:α:=by have:=h.hB;omega):α:=x
abbrev Qkd(x:α:=by exact (VI 0 rfl rfl rfl rfl rfl rfl (ZI _ (show 0+n*1<256 by omega)))):α:=x
abbrev Ql7(x:α:=by exact (fun x hx=>by rw[List.mem_singleton] at hx;subst hx;exact hw.own 0 _ rfl)):α:=x
abbrev Q9X(x:α:=by exact (Qka rfl rfl rfl rfl)):α:=x
abbrev Qfu(x:α:=by rw[HLEN.out];exact hk):α:=x
abbrev Qle(x:α:=by rw[QdC,HOUT.out,Nat.zero_add,Q17];unfold Za;rw[HRK.out,HK.out];rfl):α:=x
abbrev Qf7(x:α:=by exact Q2 (X9 (X9 HB1.out y.b) hb)):α:=x
abbrev Qnc(x:α:=by rw[beq_eq_false_iff_ne];intro e;rw[e,hs2] at hs;exact hss (Option.some.inj hs).symm):α:=x
abbrev Qkm(x:α:=by exact Q2 (show xs.length=n by have:=h.len;rw[Xw] at this;exact this)):α:=x
abbrev Qkj(x:α:=by exact (fun e=>by rw[Q7K hG.1 (by simpa using e)];exact Nat.le_refl _)):α:=x
abbrev Qeb(x:α:=by exact ⟨size.toNat,by omega⟩):α:=x
abbrev Q9Y(x:α:=by exact ZV hown1 hb2 Xr):α:=x
abbrev Q9B(x:α:=by exact (Q1b (t:=27) rfl rfl)):α:=x
abbrev Qf4(x:α:=by exact (Qh F (Qh F k).count)):α:=x
abbrev Qn8(x:α:=by exact (Ql (f:=71) rfl rfl Q1 rfl rfl (fun w hw=>QZ _ _ _ w))):α:=x
abbrev Qap(x:α:=by rw[h] at hr;cases hr):α:=x
abbrev Qa3(x:α:=by exact (Region.noSelect_spec hs)):α:=x
abbrev Q2D(x:α:=by simp [Qf.w] at this):α:=x
abbrev QkU(x:α:=by exact (VN (v:=.bool true) (f:=152) rfl rfl Q1 rfl rfl rfl QqS)):α:=x
abbrev Q6Y(x:α:=by exact (fun _=>.inr Zd)):α:=x
abbrev Q0g(x:α:=by exact (fun _=>.inr Ve)):α:=x
abbrev Q7G(x:α:=by simpa using hx):α:=x
abbrev Qea(x:α:=by show 256 - (q+1)<256 - q;omega):α:=x
abbrev Qbe(x:α:=by exact (Ag.cons XW rfl)):α:=x
abbrev Q4l(x:α:=by simp only at this;omega):α:=x
abbrev Qmi(x:α:=by rw[List.take_add_one,h,Option.toList_some,List.map_append,List.sum_append];simp):α:=x
abbrev QaJ(x:α:=by exact (Region.free_spec ho hf)):α:=x
abbrev Qot(x:α:=by go_ret;rw[HE.out];exact JK.intro (Jx hown3 Q3) (by rw[Y1]) hb3):α:=x
abbrev Q7N(x:α:=by rw[List.length_cons];omega):α:=x
abbrev QfH(x:α:=by exact ⟨Nat.zero_le _,rfl⟩):α:=x
abbrev QnM(x:α:=by exact ⟨-1,rfl,by rw[Qtb (by rw[HL.out];omega) HF.out];rfl,rfl⟩):α:=x
abbrev QaL(x:α:=by exact Nat.mod_eq_of_lt Q3):α:=x
abbrev Q3X(x:α:=by exact (zi1 (hj:=hq2))):α:=x
abbrev Q4b(x:α:=by exact (zi1 (hj:=hin))):α:=x
abbrev Qaa(x:α:=by exact (HLK.out.on hw.k.below)):α:=x
abbrev Qmr(x:α:=by exact Q2 (show Below w.heap.size w w1 from X9 (JN _ _) hb1)):α:=x
abbrev Qfs(x:α:=by exact Q2 ⟨sb',sn',sp',rfl,hd'⟩):α:=x
abbrev QjC(x:α:=by exact (Q3j (v:=.bool false) rfl rfl Q1 rfl rfl rfl hqn htc)):α:=x
abbrev QmK(x:α:=by rw[Nat.pow_succ] at h;omega):α:=x
abbrev QjL(x:α:=by rintro w' ⟨x,rfl⟩;exact Calls.up (Q5t _)):α:=x
abbrev Qli(x:α:=by rintro w' ⟨x,rfl⟩;exact Calls.up (Q01 _)):α:=x
abbrev QlX(x:α:=by show Leaves P fn a.tmps R a.defers .returning w;rw[hd];exact⟨v,h1,h2⟩):α:=x
abbrev Q9C(x:α:=by exact ⟨⟨i,h2⟩,h1,h3⟩):α:=x
abbrev Qog(x:α:=by exact ⟨none,0,0,[],hcs,Rd.nil_,Nat.le_refl _,rfl,Xy x.1⟩):α:=x
abbrev QdH(x:α:=by exact ⟨n.toNat,by omega⟩):α:=x
abbrev QdV(x:α:=by exact (zi1 (j:=0) (hj:=hlt))):α:=x
abbrev Qm2(x:α:=by exact (Q3j (v:=.bool true) rfl rfl Q1 rfl rfl rfl hqn htc)):α:=x
abbrev Q9A(x:α:=by exact (fun q hq=>hb.cell hq)):α:=x
abbrev Qnr(x:α:=by rintro w' ⟨x,rfl⟩;exact Calls.up (Yc _)):α:=x
abbrev QjS(x:α:=by rintro w' ⟨x,rfl⟩;exact Calls.up (Q0m _)):α:=x
abbrev Qji(x:α:=by exact ⟨by rw[HF.out],Kv (Z0 HB2.out Q3 _ _) _⟩):α:=x
abbrev QmV(x:α:=by exact ⟨Nat.zero_le _,fun q hq=>absurd hq (Nat.not_lt_zero q)⟩):α:=x
abbrev QnA(x:α:=by exact Zi mc4 rfl (fun w hw=>QrV 2 3 H.out hw rfl rfl hlen)):α:=x
abbrev QnZ(x:α:=by exact Q2 (show Below w.heap.size w wr from X9 HWB.out hbw)):α:=x
abbrev Q6J(x:α:=by exact absurd h.1 Q1):α:=x
abbrev QdY(x:α:=by exact [32,108,105,116,116,108,101,32]):α:=x
abbrev Ql3(x:α:=by rintro w' ⟨x,rfl⟩;exact Calls.up (Q1L _)):α:=x
abbrev Qe0(x:α:=by exact (Nat.lt_irrefl 0)):α:=x
abbrev Q6k(x:α:=by exact (5,.pointer Q6S)):α:=x
abbrev Qfj(x:α:=by simp [sizeOf,typeInfo,hi,hs,sliced,ZY]):α:=x
abbrev QnT(x:α:=by rw[<- QiC S k st cc hkS hcn,Nat.zero_add,Nat.mul_one,HB.out];rfl):α:=x
abbrev Qny(x:α:=by rw[Bool.eq_iff_iff];simp only[Bool.and_eq_true,decide_eq_true_eq];omega):α:=x
abbrev Qlj(x:α:=by exact ⟨name,9,bs,size,big,mn,mx,stop,count,elem,names,parts⟩):α:=x
abbrev Qmp(x:α:=by exact (Ql rfl rfl Q1 rfl rfl (fun w hw=>Q6H 6 w))):α:=x
abbrev QlM(x:α:=by exact (Ql rfl rfl Q1 rfl rfl (fun w hw=>Q6H 5 w))):α:=x
abbrev QkO(x:α:=by rintro w' ⟨x,rfl⟩;exact Calls.up (Q3y _)):α:=x
abbrev Q9w(x:α:=by exact List.length_append ..):α:=x
abbrev Q2j(x:α:=by exact (ha.eval hc)):α:=x
abbrev Qex(x:α:=by simpa [Addr.add] using h0):α:=x
abbrev Q4q(x:α:=by exact (Vq F elem p (n+1))):α:=x
abbrev Q9D(x:α:=by exact (6,.int .i64 (t:Int))):α:=x
abbrev Qeu(x:α:=by exact (.cons rfl rfl Q0a)):α:=x
abbrev Qnf(x:α:=by obtain⟨b',o'',e',hlt,_⟩:=hl.p.2 h0;rw[h] at e';cases e';exact hlt):α:=x
abbrev QaZ(x:α:=by have:=(H.out.far _ e).1;omega):α:=x
abbrev Qnd(x:α:=by exact ⟨by rw[HS.out,HQ.out];simp,X9 (JN _ _) HB2.out⟩):α:=x
abbrev QjJ(x:α:=by exact (Qtf Tryz.underlying4 rfl rfl Q1 rfl rfl rfl rfl)):α:=x
abbrev QnC(x:α:=by rw[<- HC.out];simp [Xs,hk1,hk7,hk8,h1,h2,h3,h4,h6,h7,h8,h10,h11]):α:=x
abbrev QdO(x:α:=by rw[hd];exact ha.put _ hN):α:=x
abbrev Qe7(x:α:=by subst hb;simp [execOp,ho,hx,hy,go_sem]):α:=x
abbrev Q9J(x:α:=by exact ⟨_,_,_,_,_,he,h⟩):α:=x
abbrev Qba(x:α:=by exact fun _=>by kernel_rfl):α:=x
abbrev Qk4(x:α:=by exact Kv HB2.out (.cells #[.int .i64 c,.int .i64 ix] 32)):α:=x
abbrev Qez(x:α:=by exact (heap_alloc_new _ _)):α:=x
abbrev Qa8(x:α:=by exact (fun _ hw=>hw.tl.tl)):α:=x
abbrev Q9y(x:α:=by exact (decide_eq_false hb)):α:=x
abbrev Qe6(x:α:=by exact (.cons rfl rfl .nil)):α:=x
abbrev QnG(x:α:=by exact ⟨Ab,cb,An,cn,Ap,cp,rfl,rfl,rfl,h1,h2,h3,h4,h5,h6⟩):α:=x
abbrev QjP(x:α:=by exact [(0,.agg (Q5A i).toArray),(1,.agg (Q5A j).toArray)]):α:=x
abbrev Qmo(x:α:=by exact List.eq_nil_of_length_eq_zero (by simpa using hown.1)):α:=x
abbrev Q6n(x:α:=by exact Int.le_refl _):α:=x
abbrev Qms(x:α:=by exact HF1.out.alloc (.cells #[.int .i64 c,.int .i64 ix] 32)):α:=x
abbrev QnS(x:α:=by exact (QmP rfl rfl rfl (fun w hw=>hw.cell_rd 0 rfl hkw))):α:=x
abbrev QlA(x:α:=by exact (Jc (j:=n) rfl rfl Q1 rfl rfl rfl Q3)):α:=x
abbrev QdE(x:α:=by exact (H.out.nextW hw 2 3 rfl rfl)):α:=x
abbrev Qjg(x:α:=by rw[<- HC.out];simp [Xs,hk1,hk7,hk8,h1,h2,h3,h4,h6,h9,h10,h11]):α:=x
abbrev QkG(x:α:=by rw[<- HC.out];simp [Xs,hk1,hk7,hk8,h1,h2,h3,h4,h5,h6,h10,h11]):α:=x
abbrev Qm6(x:α:=by exact (QY _ _ _ rfl rfl rfl (fun w hw=>Qu2 5 6 hw))):α:=x
abbrev QkB(x:α:=by exact (QjK hr Q3 Q1 rfl rfl Q1 rfl rfl rfl)):α:=x
abbrev Ql6(x:α:=by exact (QfD hq Q3 Q1 rfl rfl Q1 rfl rfl rfl)):α:=x
abbrev Qev(x:α:=by exact (Xc (j:=0) rfl rfl Q1 rfl rfl rfl Q3w)):α:=x
abbrev Qfv(x:α:=by exact (List.length_append ..).symm):α:=x
abbrev Q7A(x:α:=by exact (hW.own i _ hO)):α:=x
abbrev Qjj(x:α:=by exact (fun e w' ⟨i,h1,h2,h3⟩=>⟨i,h1,h2,hw.on h3⟩)):α:=x
abbrev Qad(x:α:=by exact (decide_eq_true hb)):α:=x
abbrev QdI(x:α:=by simpa using hl):α:=x
abbrev Qe1(x:α:=by simpa using h1):α:=x
abbrev Qno(x:α:=by simp [results,Tryz.results101,go_sem,r0,r1,z4]):α:=x
abbrev Q9z(x:α:=by exact (XN (YQ F k))):α:=x
abbrev QeR(x:α:=by exact (Nat.mul_le_mul_right _ h2)):α:=x
abbrev Qlp(x:α:=by exact (.agg #[.int .i64 d2.k,.int .i64 d2.n,sb2,sn2,sp2])):α:=x
abbrev Qoe(x:α:=by exact (.agg #[.int .i64 d1.k,.int .i64 d1.n,sb1,sn1,sp1])):α:=x
abbrev Q2l(x:α:=by go_ret;exact QcH):α:=x
abbrev Qm9(x:α:=by exact (RsV.cell1 rfl (fun w hw=>hw.cell_blkL 5 rfl rfl))):α:=x
abbrev Qnj(x:α:=by simp [execOp,ho,ha.eval hx,ha.eval hy,Qf2 h1 hcell hfr]):α:=x
abbrev QmS(x:α:=by rw[<- HC.out];simp [Xs,hk1,hk7,hk8,h1,h2,h3,h4,h6,h10,h11]):α:=x
abbrev Qlr(x:α:=by rw[hrun] at hre;injection hre with e1 e2;rw[e1] at hb;exact hb):α:=x
abbrev Jb(x:α:=by exact ZU mc4 rfl (.tmp rfl) (.tmp rfl) (.tmp rfl) (fun w hw=>Q3h HX.out hw.k.below)):α:=x
abbrev Q3Q(x:α:=by exact (.cells ([.string Q0u,.int .i64 kind,sb,.int .i64 size,.bool big,.int .i64 mn,.int .i64 mx,.int .i64 stop,.int .i64 count,.int .i64 elem,sn,sp]:List Value).toArray 65 (0,0))):α:=x
abbrev QjR(x:α:=by exact ⟨name2,kind2,bs2,size2,big2,mn2,mx2,stop2,count2,elem2,names2,parts2⟩):α:=x
abbrev JI(x:α:=by exact (6,.pointer (some ⟨b6,0,none⟩))):α:=x
abbrev Zf(x:α:=by exact (Qm.sel [1,3,4] Q1 rfl)):α:=x
abbrev Q0Q(x:α:=by exact Q2 (show RES=.error n from HB.out (by rw[beq_eq_false_iff_ne.2 hw1];rfl))):α:=x
abbrev Q9L(x:α:=by exact (.cells ([.string Q0u,.int .i64 8,sb,.int .i64 size,.bool big,.int .i64 mn,.int .i64 mx,.int .i64 stop,.int .i64 count,.int .i64 elem,sn,.slice QjF pn cp]:List Value).toArray 65 (0,0))):α:=x
abbrev QeN(x:α:=by exact [(0,.agg #[.slice Vz nn cf]),Q29,(2,.agg [.int .i64 dk,.int .i64 dn,.slice Abv dbs.length cbv,.slice Anv dns.length cnv,.slice Apv p.len cpv].toArray),(3,.int .i64 (n:Int))]):α:=x
abbrev Qks(x:α:=by exact [.blk b11 QkF,.blk b6 (.cells ([.int .i64 2,.int .i64 dn,.slice Abv dbs.length cbv,.slice Anv dns.length cnv,.slice Apv p.len cpv]:List Value).toArray 30 (0,0))]):α:=x
abbrev Qje(x:α:=by exact (.cells ([.int .i64 vk,.int .i64 vx,vb,vn,.slice Apv pl cpv]:List Value).toArray 30 (0,0))):α:=x
abbrev Q3P(x:α:=by exact (.cells ([.slice Af nn cf]:List Value).toArray 24 (0,0))):α:=x
abbrev Qbf(x:α:=by exact (QY _ _ _ rfl rfl rfl (fun w hw=>(Q2G ((HDB.out.below hw.k.below).more hw.k.size) Q3).mono (fun e w' h=>QgR hw h)))):α:=x
abbrev Qfn(x:α:=by exact Qt (i+1) [0,1] Q1 hin (by show dbs.length - (i+1)<dbs.length - i;omega) (.cons rfl rfl (.cons rfl rfl (.cons rfl rfl (.cons rfl rfl (.cons rfl rfl (.cons rfl (by rw[hnx];rfl) Q0a)))))) rfl):α:=x
abbrev Qb8(x:α:=by exact (.cells ([.int .i64 vk,.int .i64 vx,vb,vn,.slice (some ⟨bv0,ov0,none⟩) 2 cpv]:List Value).toArray 30 (0,0))):α:=x
abbrev V7(x:α:=by exact (Qm.sel [2,3] Q1 rfl)):α:=x
abbrev KK(x:α:=by exact (14,.slice none 0 0)):α:=x
abbrev QeD(x:α:=by exact (.cells ([.int .i64 2,.int .i64 dn,.slice Abv dbs.length cbv,.slice Anv dns.length cnv,.slice Apv 0 cpv]:List Value).toArray 30 (0,0))):α:=x
abbrev Q44(x:α:=by exact (19,.int .i64 ((n+1:Nat):Int))):α:=x
abbrev Q4v(x:α:=by exact (3,.int .i64 (n:Int))):α:=x
abbrev QoL(x:α:=by exact Qhc ⟨by decide,by decide,by decide,by decide⟩ hy HX.out Q3 hcost hno):α:=x
abbrev KG(x:α:=by exact Decidable.not_not.1 hw1):α:=x
abbrev Qk0(x:α:=by exact (ruC Qf4 (.slice Ab2 (Qh F (Qh F k).count).bs.length cb2) (.slice An2 (Qh F (Qh F k).count).names.length cn2) (.slice Ap2 (Qh F (Qh F k).count).parts.length cp2))):α:=x
abbrev Qnb(x:α:=by exact (.cells ([.string Q0u,.int .i64 2,sb,.int .i64 (m:Int),.bool big,.int .i64 mn,.int .i64 mx,.int .i64 stop,.int .i64 count,.int .i64 elem,sn,sp]:List Value).toArray 65 (0,0))):α:=x
abbrev QfC(x:α:=by exact ⟨name,5,bs,size,big,mn,mx,stop,count,elem,names,parts⟩):α:=x
abbrev Q4d(x:α:=by exact (13,.slice y0.A cur0.length y0.c)):α:=x
abbrev Q0e(x:α:=by exact (dbs.length:Int)):α:=x
abbrev QkR(x:α:=by exact (QY _ _ _ rfl rfl rfl (fun w hw=>(Q2G ((HRB.out.below hw.k.below).more hw.k.size) Q3).mono (fun e w' h=>QgR hw h)))):α:=x
abbrev Q6c(x:α:=by intro h;cases h):α:=x
abbrev Qmy(x:α:=by exact (.cons rfl rfl (.cons rfl rfl (.cons rfl rfl (.cons rfl rfl (.cons rfl rfl (.cons rfl (by go_num) Qeu))))))):α:=x
abbrev Qmv(x:α:=by exact ZS mc4 rfl (.tmp rfl) (.tmp rfl) (fun w hw=>by rw[<- HP.out];exact HBAD.out w hc hw.k.below)):α:=x
abbrev QfG(x:α:=by exact (13,.slice y.A B.length y.c)):α:=x
abbrev Qkb(x:α:=by exact ⟨hin,by show (L.set _ _).length=m;rw[List.length_set];exact hL,HFIN.out⟩):α:=x
abbrev QlC(x:α:=by exact Qhc ⟨by decide,by decide,by decide,by decide⟩ hy HX.out hle hcost hno):α:=x
abbrev QeA(x:α:=by exact (fun w hw=>Wd.pre hw)):α:=x
abbrev Qoy(x:α:=by exact (dk==3&&p.len==2&&p.hdN.k==1&&decide (0<=p.hdN.n)&&decide (p.hdN.n<(parts.length:Int)))):α:=x
abbrev Qoz(x:α:=by exact ZS mc4 rfl (.tmp rfl) Kb (fun w hw=>Qpf HX.out hw.k.below)):α:=x
abbrev Qn7(x:α:=by rw[show ((2:Int)==2)=true from rfl,Bool.true_and,<- HOKL.out,ho]):α:=x
abbrev Qob(x:α:=by exact (dk==2&&decide (Q0e<=size)&&!(dbs.contains (ZJ QfC)))):α:=x
abbrev Qjh(x:α:=by exact (Kn 1 y (news:=[sB]) rfl rfl rfl rfl rfl hy Q84 Q3)):α:=x
abbrev Q9x(x:α:=by exact (some ⟨b6,0,none⟩)):α:=x
abbrev Qlf(x:α:=by exact Q2 (And.intro hall (And.intro hgl (And.intro hfl hfm)))):α:=x
abbrev Q48(x:α:=by exact (Qh F count)):α:=x
abbrev Qeh(x:α:=by exact (19,.int .i64 ((n+2:Nat):Int))):α:=x
abbrev Q7r(x:α:=by exact (.cons rfl rfl Q1T)):α:=x
abbrev QmB(x:α:=by exact (QjK rfl Q3 Q1 rfl rfl Q1 rfl rfl rfl)):α:=x
abbrev QmR(x:α:=by show names.length - (j+1)<names.length - j;omega):α:=x
abbrev Qfw(x:α:=by exact (20,.int .i64 ((1:Nat):Int))):α:=x
abbrev Qf5(x:α:=by exact (20,.int .i64 ((0:Nat):Int))):α:=x
abbrev Ql2(x:α:=by exact (0<=(Qh F k).count/\(Qh F k).count<(nn:Int))):α:=x
section
variable{p q:Prop}(hq:q)
include hq
theorem mc7(h:Hq q->p:=by intro h0';(repeat(first|refine Q4 zA ?_|refine Qg ?_|refine Qa ?_|refine Q6 ?_|refine QC ?_|refine Qk ?_|refine Qu ?_));exact h0'.o):p:=h ⟨hq⟩
theorem mc9(h:Hq q->p:=by intro h0';refine Qe zS ?_;refine Qe zS ?_;refine Qe zS ?_;refine Qe zS ?_;refine Qe zS ?_;exact h0'.o):p:=h ⟨hq⟩
theorem Yf(h:Hq q->p:=by intro h0';simp only[List.append_eq,List.cons_append,List.nil_append,List.take_succ_cons,List.take_zero];exact h0'.o):p:=h ⟨hq⟩
theorem Qvv(h:Hq q->p:=by intro h0';refine yW 0 ?_;refine yl<|yn<|yq<|yq<|yr<|yo zM<|yo (zD 0)<|yo (zD 1) ?_;refine Q4 (Ql rfl rfl Q1 rfl rfl (fun w hw=>HFC.out w (H.out.nextW hw 2 3 rfl rfl) (HRU.out.below (H.out.below hw.k)) (HVAL.out.below (H.out.below hw.k) (Nat.le_refl _)))) ?_;exact h0'.o):p:=h ⟨hq⟩
theorem Q3L(h:Hq q->p:=by intro h0';refine yo zO<|yl<|yn<|y0<|ys<|yn<|yq<|yq<|yr<|yo (zD 0) ?_;refine Q4 (Ql (f:=72) rfl rfl Q1 rfl rfl (fun w hw=>HU2.out w)) ?_;exact h0'.o):p:=h ⟨hq⟩
theorem QtA(h:Hq q->p:=by intro h0';refine yn<|yb<|yq<|yr<|yo zef<|yo zA<|yl<|yn<|y0<|yq<|yq<|yr<|yo zef<|yo zA<|yl<|yn<|y0<|yr<|yo zef<|yo zA<|yl<|yn<|y0<|yq<|yr<|yo zef<|yo zA<|yl<|yn<|y0<|yq<|yr<|yo zef<|yo zA<|yl<|yn<|y0<|yq<|yr<|yo zef<|yo zA<|yl<|yn<|y0<|yq<|yr<|yo zef<|yo zA<|yl<|yn<|y0<|yq<|yr<|yo zef<|yo zA<|yl<|yn<|y0<|yq<|yr<|yo zet<|yo zA<|yl<|yn<|y1<|yq<|Xm Q5 Q5 ?_;refine Qe zF ?_;refine Qe (zB 0) ?_;exact h0'.o):p:=h ⟨hq⟩
theorem QoR(h:Hq q->p:=by intro h0';(repeat(first|((with_reducible show sE _ _ _ _ _ _ _ _);first|refine Qa ?_|refine Q6 ?_|refine Qp ?_|refine Q8 rfl ?_)|((with_reducible show xE _ _ _ _ _ _ _);refine Qb ?_)));exact h0'.o):p:=h ⟨hq⟩
theorem Q3D(h:Hq q->p:=by intro h0';refine yq<|yq<|yr<|yo zM<|yo zF<|yo (zB 1)<|yo zL<|yo zlt<|yl<|yn<|y1<|ys<|yn<|yq<|yb<|yq<|yr<|yo zF<|yo (zB 1)<|yo zM<|yo zi<|yo zE ?_;exact h0'.o):p:=h ⟨hq⟩
theorem Q2v(h:Hq q->p:=by intro h0';refine yq<|yq<|yr<|yo zM<|yo zM<|yo zlf<|yl<|yn<|y0<|ye<|yn<|yq<|yq<|yr<|yo zF<|yo (zB 0) ?_;exact h0'.o):p:=h ⟨hq⟩
theorem Q2f(h:Hq q->p:=by intro h0';(repeat(first|((with_reducible show sE _ _ _ _ _ _ _ _);first|refine Qa ?_|refine Q6 ?_)));exact h0'.o):p:=h ⟨hq⟩
theorem Qq2(h:Hq q->p:=by intro h0';refine yW 0 ?_;refine yl<|yn<|yq<|yr<|yo zA<|yl<|yn<|yq<|yq<|yr<|yo zF<|yo (zB 0)<|yl<|yn<|yb<|yq<|yr<|yo zef<|yo zA<|yl<|yn<|y0<|yq<|yq<|yr<|yo zef<|yo zA<|yl<|yn<|y0<|yr<|yo zef<|yo zA<|yl<|yn<|y0<|yq<|yr<|yo zef<|yo zA<|yl<|yn<|y0<|yq<|yq<|yr<|yo zef<|yo zA<|yl<|yn<|y0<|yr<|yo zef<|yo zA<|yl<|yn<|y0<|yq<|yr<|yo zet<|yo zA<|yl<|yn<|y1<|yq<|yr<|yo zF<|yo (zB 2)<|yo zF<|yo (zB 0) ?_;refine Q4 (QG rfl rfl Q1 rfl rfl rfl Q3) ?_;refine yo zE ?_;exact h0'.o):p:=h ⟨hq⟩
theorem Qpq(h:Hq q->p:=by intro h0';refine yo zA<|yl<|yn<|yq<|yq<|yr<|yo zF<|yo (zB 0)<|yo zef<|yl<|yn<|y0<|ys<|yn<|yq<|yq<|yr<|yo zF<|yo (zB 0)<|yo zef<|yo zM<|yo zS<|yo zS<|yo zN<|yl<|yn<|y0<|ys<|yn<|yq<|yq<|yr<|yo zF<|yo (zB 0)<|yo zef<|yl<|yn<|y0<|ys<|yn<|yq<|yq<|yr<|yo zF<|yo (zB 0)<|yo zef<|yl<|yn<|y0<|ys<|yn<|yq<|yq<|yr<|yo zF<|yo (zB 0)<|yo zef<|yl<|yn<|y0<|ys<|yn<|yq<|yq<|yr<|yo zF<|yo (zB 0)<|yo zef<|yl<|yn<|y0<|ys<|yn<|yq<|yr<|yo zF<|yo (zB 0)<|yo zef<|yo zA<|yl<|yn<|yt ?_;exact h0'.o):p:=h ⟨hq⟩
theorem Qmx(h:Hq q->p:=by intro h0';(repeat(first|((with_reducible show sE _ _ _ _ _ _ _ _);first|refine Qa ?_|refine Q6 ?_)|((with_reducible show xE _ _ _ _ _ _ _);refine Qb ?_)));exact h0'.o):p:=h ⟨hq⟩
theorem Qq7(h:Hq q->p:=by intro h0';refine yo zA<|yl<|yn<|yq<|yq<|yr<|yo zF<|yo (zB 0)<|yo zef<|yl<|yn<|y0<|ys<|yn<|yq<|yq<|yr<|yo zF<|yo (zB 0)<|yo zet<|yo zM<|yo zF<|yo (zB 0)<|yo zY<|yl<|yn<|y1<|yq<|yr<|yo zF<|yo (zB 0)<|yo zQ ?_;exact h0'.o):p:=h ⟨hq⟩
theorem Qp0(h:Hq q->p:=by intro h0';refine Qe zY ?_;refine Qe zM ?_;refine Qe zF ?_;refine Qe (zB 0) ?_;refine Qe (Xc (j:=0) rfl rfl Q1 rfl rfl rfl Q3) ?_;refine Qe zF ?_;exact h0'.o):p:=h ⟨hq⟩
theorem Qvb(h:Hq q->p:=by intro h0';refine Q2v ?_;refine Q4 (Ql (f:=71) rfl rfl Q1 rfl rfl (fun w hw=>(QZ 8 1 10 w).mono (fun _ _ h=>by rw[H3.out] at h;exact h))) ?_;refine Q3L ?_;refine yl<|yn<|y0<|ys<|yn<|yq<|yq<|yr<|yo zF<|yo (zB 0)<|yo zef<|yo zM<|yo zS<|yo zS<|yo zS<|yo zS<|yo zN<|yl<|yn<|y0<|ys<|yn<|yq<|yq<|yr<|yo zF<|yo (zB 0)<|yo zef<|yo zM<|yo zS<|yo zS<|yo zS<|yo zS<|yo zN<|yl<|yn<|y0<|ys<|yn<|yq<|yq<|yr<|yo zF<|yo (zB 0)<|yo zef<|yo zM<|yo zS<|yo zS<|yo zS<|yo zS<|yo zS<|yo zS<|yo zS<|yo zN<|yl<|yn<|y0<|ys<|yn<|yq<|yq<|yr<|yo zF<|yo (zB 0)<|yo zef<|yo zM<|yo zS<|yo zS<|yo zS<|yo zS<|yo zN<|yo zM<|yo zF<|yo (zB 0)<|yo zea<|yo zM<|yo zF<|yo (zB 0)<|yo zL ?_;refine Q4 (Q06 rfl rfl Q1 rfl rfl rfl QT) ?_;exact h0'.o):p:=h ⟨hq⟩
theorem Qv2(h:Hq q->p:=by intro h0';refine yl<|yn<|yq<|yr<|yo (zB 1) ?_;refine Q4 mc5 ?_;refine yo zF<|yo zF<|yo (zB 2)<|yo zM ?_;refine Q4 (QG rfl rfl Q1 rfl rfl rfl hkn) ?_;refine Q4 (X4 rfl rfl Q1 rfl rfl (fun w hw=>hw.range_old hrg (by simpa using hbg)) rfl) ?_;exact h0'.o):p:=h ⟨hq⟩
theorem Q7U(h:Hq q->p:=by intro h0';refine yn<|y0<|ys<|yn<|yq<|yr<|yo zM ?_;refine Q4 mc5 ?_;refine yo zF<|yo (zB 2)<|yo zP ?_;refine Q4 mc5 ?_;refine yo zF ?_;refine yS 2 ?_;exact h0'.o):p:=h ⟨hq⟩
theorem QkN(h:Hq q->p:=by intro h0';(refine Yf ?_;repeat(first|refine XY rfl rfl Q1 rfl rfl ?_|refine XC rfl Q1 rfl Q1 rfl rfl ?_|refine Xn HV rfl rfl Q1 rfl rfl rfl ?_|refine Jk rfl rfl Q1 rfl rfl rfl QT ?_|refine QV rfl rfl Q1 rfl rfl rfl ?_|refine Q0O rfl Q1 rfl ?_));exact h0'.o):p:=h ⟨hq⟩
theorem Zm(h:Hq q->p:=by intro h0';refine Q4 zA ?_;refine Qg ?_;exact h0'.o):p:=h ⟨hq⟩
theorem QaV(h:Hq q->p:=by intro h0';refine Qe zF ?_;refine Qe (zB 0) ?_;exact h0'.o):p:=h ⟨hq⟩
theorem Kk(h:Hq q->p:=by intro h0';refine yo zA<|yl<|yn<|yr<|yo zM<|yo zP<|yo zA<|yl ?_;exact h0'.o):p:=h ⟨hq⟩
theorem JF(h:Hq q->p:=by intro h0';rw[Q2e (by dsimp only;omega) (by dsimp only;omega)];exact h0'.o):p:=h ⟨hq⟩
theorem Q6z(h:Hq q->p:=by intro h0';(refine Yf ?_;repeat(first|refine XY rfl rfl Q1 rfl rfl ?_|refine Xe rfl rfl Q1 rfl rfl rfl ?_|refine Q0O rfl Q1 rfl ?_));exact h0'.o):p:=h ⟨hq⟩
theorem Q60(h:Hq q->p:=by intro h0';refine Qe zM ?_;refine Qe zM ?_;exact h0'.o):p:=h ⟨hq⟩
theorem Qkh(h:Hq q->p:=by intro h0';refine yn<|yq<|yq<|yr<|yo zF<|yo (zB 1)<|yo zF<|yo (zB 0)<|yo znf<|yo zM<|yo zF<|yo (zB 1)<|yo zF<|yo (zB 0)<|yo znf<|yo zN<|yo zM<|yo zF<|yo (zB 1)<|yo zF<|yo (zB 0) ?_;refine Q4 (Ql rfl rfl Q1 rfl rfl (fun w hw=>hby w hw)) ?_;refine yo zO<|yo zN<|yo zM<|yo zF<|yo (zB 1)<|yo zF<|yo (zB 0) ?_;refine Q4 (Ql rfl rfl Q1 rfl rfl (fun w hw=>hst w hw)) ?_;exact h0'.o):p:=h ⟨hq⟩
theorem Qcf(h:Hq q->p:=by intro h0';refine Qe zM ?_;refine Qe mc5 ?_;refine Qe zF ?_;exact h0'.o):p:=h ⟨hq⟩
theorem Qcm(h:Hq q->p:=by intro h0';(repeat(first|((with_reducible show sE _ _ _ _ _ _ _ _);first|refine Qa ?_|refine Q6 ?_|refine Q9 rfl ?_)|((with_reducible show xE _ _ _ _ _ _ _);refine Qb ?_)));exact h0'.o):p:=h ⟨hq⟩
theorem Qh9(h:Hq q->p:=by intro h0';(repeat(first|refine Q4 zM ?_|refine Qg ?_|refine Qa ?_|refine Q6 ?_|refine Q8 rfl ?_|refine Xx ?_|refine Q4 (Q06 rfl rfl Q1 rfl rfl rfl (by first|exact decide_eq_false Q3|rfl)) ?_|refine Q4 zP ?_));exact h0'.o):p:=h ⟨hq⟩
theorem Qlz(h:Hq q->p:=by intro h0';refine yn<|yq<|yr<|yo (zD 0) ?_;refine Q4 mc6 ?_;refine Q4 (Q6D rfl rfl Q1 rfl rfl rfl hne) ?_;exact h0'.o):p:=h ⟨hq⟩
theorem Q3H(h:Hq q->p:=by intro h0';simp only[List.append_eq,List.cons_append,List.nil_append,List.drop_succ_cons,List.drop_zero];exact h0'.o):p:=h ⟨hq⟩
theorem QgF(h:Hq q->p:=by intro h0';(repeat(first|((with_reducible show sE _ _ _ _ _ _ _ _);first|refine Qa ?_|refine Q6 ?_|refine Qp ?_|refine Q9 rfl ?_|refine Qi ?_)|((with_reducible show xE _ _ _ _ _ _ _);refine Qb ?_)));exact h0'.o):p:=h ⟨hq⟩
theorem Qgq(h:Hq q->p:=by intro h0';refine wpS_of_wp ?_;simp only[Array.replicate_succ,Array.replicate_zero,List.push_toArray,List.append_toArray,List.nil_append,List.cons_append,List.setIfInBounds_toArray,List.set_cons_zero,List.set_cons_succ];exact h0'.o):p:=h ⟨hq⟩
theorem Q51(h:Hq q->p:=by intro h0';refine Qe zF ?_;refine Qe (zB 1) ?_;exact h0'.o):p:=h ⟨hq⟩
theorem Qbt(h:Hq q->p:=by intro h0';refine yo zF<|yo (zB 0) ?_;refine Q4 (Yz rfl rfl Q1 rfl rfl rfl (by first|assumption|exact beq_eq_false_iff_ne.2 Q3)) ?_;refine yo zM ?_;exact h0'.o):p:=h ⟨hq⟩
theorem Q0x(h:Hq q->p:=by intro h0';refine yl<|yn<|yq<|yr<|yo zM ?_;refine Q4 mc5 ?_;refine yo zF<|yo zF<|yo (zB 1)<|yo zM ?_;refine Q4 (QG rfl rfl Q1 rfl rfl rfl hkn) ?_;refine Q4 (X4 rfl rfl Q1 rfl rfl (fun w hw=>hw.range_old hrg hbM) rfl) ?_;exact h0'.o):p:=h ⟨hq⟩
theorem Qhn(h:Hq q->p:=by intro h0';rw[Bool.not_eq_true',Bool.and_eq_false_iff,beq_eq_false_iff_ne,beq_eq_false_iff_ne];exact h0'.o):p:=h ⟨hq⟩
theorem QqB(h:Hq q->p:=by intro h0';refine yb<|yq<|yr ?_;refine Q4 (Xi (v:=.bool false) rfl Q1 rfl (fun ρ w ha _=>by have h5:=ha.eval (x:=.tmp 5) rfl;have hc:ρ (.const .nilIface)=.nilIface:=ha.eval rfl;simp [execOp,h5,hc,heq,eqGuard,go_sem])) ?_;refine yl<|yn<|y0<|yq<|yr ?_;refine Q4 (Xi (v:=.tuple #[.agg #[.int .i64 c,.int .i64 x],.bool true]) rfl Q1 rfl (fun ρ w ha _=>by have h5:=ha.eval (x:=.tmp 5) rfl;simp [execOp,h5,hta,Sem.run_bind,go_sem])) ?_;refine yo zX<|yo zX<|yl<|yn<|y1<|yq<|yr ?_;exact h0'.o):p:=h ⟨hq⟩
theorem QsT(h:Hq q->p:=by intro h0';refine yq<|yr<|yo zlt<|yl<|yn<|yq<|y1<|ys<|yn<|yq<|yb<|yq<|yr<|yo zM<|yo (zi1 (hj:=hlt)) ?_;refine Q4 (Xz rfl rfl Q1 rfl rfl (fun w hw=>hw.cell_old hcx hbpM)) ?_;refine yo zA<|yo zA<|yl<|yn<|yq<|yq<|yr<|yo zF<|yo (zB 0)<|yo zM ?_;refine Q4 (Z5 rfl rfl Q1 rfl rfl rfl (show i<names.length by omega)) ?_;refine Q4 (Xz rfl rfl Q1 rfl rfl (fun w hw=>hw.cell_old hcs hbmM)) ?_;refine Q4 (Q4h rfl rfl Q1 rfl rfl rfl hst) ?_;exact h0'.o):p:=h ⟨hq⟩
theorem Q05(h:Hq q->p:=by intro h0';refine Qe zA ?_;refine JW ?_;exact h0'.o):p:=h ⟨hq⟩
theorem QrA(h:Hq q->p:=by intro h0';refine yo zF<|yo (zB 0) ?_;refine Q4 (Ql (f:=79) rfl rfl Q1 rfl rfl (fun w hw=>JG Q3 w)) ?_;exact h0'.o):p:=h ⟨hq⟩
theorem Qjr(h:Hq q->p:=by intro h0';refine Qe zM ?_;refine mc9 ?_;refine Qe zS ?_;refine Qe zN ?_;refine Qe zM ?_;refine mc9 ?_;refine Qe zS ?_;exact h0'.o):p:=h ⟨hq⟩
theorem QlU(h:Hq q->p:=by intro h0';(repeat(first|refine Q4 zM ?_|refine Q4 zF ?_|refine Q4 (zB 1) ?_|refine Qg ?_|refine Qa ?_|refine Q6 ?_|refine Q8 rfl ?_|refine Xx ?_|refine Qi ?_|refine Q4 zL ?_|refine Q4 zlf ?_));exact h0'.o):p:=h ⟨hq⟩
theorem Qsl(h:Hq q->p:=by intro h0';(refine Yf ?_;repeat(first|refine XY rfl rfl Q1 rfl rfl ?_|refine XC rfl Q1 rfl Q1 rfl rfl ?_|refine Xn HV rfl rfl Q1 rfl rfl rfl ?_|refine Q0l HV rfl rfl Q1 rfl rfl rfl ?_|refine Q6w rfl Tryz.underlying27 rfl Q1 rfl rfl ?_|refine Jk rfl rfl Q1 rfl rfl rfl QT ?_|refine QV rfl rfl Q1 rfl rfl rfl ?_|refine Xe rfl rfl Q1 rfl rfl rfl ?_));exact h0'.o):p:=h ⟨hq⟩
theorem Qhg(h:Hq q->p:=by intro h0';refine Qe zS ?_;refine Qe zS ?_;refine Qe zS ?_;exact h0'.o):p:=h ⟨hq⟩
theorem QqR(h:Hq q->p:=by intro h0';refine yW 0 ?_;refine yl<|yn<|yq<|yr<|yo zA<|yl<|yn<|yq<|yq<|yr<|yo zF<|yo (zB 0)<|yl<|yn<|yb<|yq<|yr<|yo zef<|yo zA<|yl<|yn<|y0<|yq<|yq<|yr<|yo zef<|yo zA<|yl<|yn<|y0<|yr<|yo zef<|yo zA<|yl<|yn<|y0<|yq<|yr<|yo zef<|yo zA<|yl<|yn<|y0<|yq<|yq<|yr<|yo zef<|yo zA<|yl<|yn<|y0<|yr<|yo zef<|yo zA<|yl<|yn<|y0<|yq<|yr<|yo zef<|yo zA<|yl<|yn<|y0<|yq<|yr<|yo zet<|yo zA<|yl<|yn<|y1<|yq<|yr<|yo zM<|yo zF<|yo (zB 0) ?_;exact h0'.o):p:=h ⟨hq⟩
theorem Qgo(h:Hq q->p:=by intro h0';refine yq<|yq<|yr<|yo zM<|yo zF<|yo (zB 0)<|yo zL<|yo zlt<|yl<|yn<|y1<|ys<|yn<|yq<|yb<|yq<|yr<|yo zM<|yo zF<|yo (zB 0)<|yo zM<|yo zi1<|yo zC ?_;exact h0'.o):p:=h ⟨hq⟩
theorem Qry(h:Hq q->p:=by intro h0';(refine Yf ?_;repeat(first|refine XY rfl rfl Q1 rfl rfl ?_|refine XC rfl Q1 rfl Q1 rfl rfl ?_|refine Xn HV rfl rfl Q1 rfl rfl rfl ?_|refine Q0S HV rfl rfl Q1 rfl rfl rfl ?_|refine Jk rfl rfl Q1 rfl rfl rfl QT ?_|refine QV rfl rfl Q1 rfl rfl rfl ?_|refine Xe rfl rfl Q1 rfl rfl rfl ?_|refine Qom rfl rfl Q1 rfl rfl ?_));exact h0'.o):p:=h ⟨hq⟩
theorem QrD(h:Hq q->p:=by intro h0';refine yq<|yq<|yr<|yo zM<|yo zF<|yo (zB 2)<|yo zL<|yo zlt<|yl<|yn<|y1<|ys<|yn<|yq<|yb<|yq<|yr<|yo zF<|yo (zB 2)<|yo zM<|yo (zi (hj:=hkn))<|yo zE<|yo zM ?_;refine Q4 (Ql (f:=40) rfl rfl Q1 rfl rfl (fun w hw=>(Qdd (HLK.out.on hw.k.below) HOK.out (Qp8 rfl HLEN.out hw (fun a ha=>List.mem_cons_of_mem _ (List.mem_cons_of_mem _ ha)))).mono (fun _ _ h=>by rw[HCF.out] at h;exact h))) ?_;exact h0'.o):p:=h ⟨hq⟩
theorem QnH(h:Hq q->p:=by intro h0';(repeat(first|((with_reducible show sE _ _ _ _ _ _ _ _);first|refine Qa ?_|refine Q6 ?_|refine Q8 rfl ?_|refine Xx ?_)|((with_reducible show xE _ _ _ _ _ _ _);refine Qb ?_)));exact h0'.o):p:=h ⟨hq⟩
theorem Q4L(h:Hq q->p:=by intro h0';refine Qe zM ?_;refine Qe zF ?_;exact h0'.o):p:=h ⟨hq⟩
theorem KQ(h:Hq q->p:=by intro h0';(repeat(first|refine Qg ?_|refine QC ?_));exact h0'.o):p:=h ⟨hq⟩
theorem Qre(h:Hq q->p:=by intro h0';(refine Yf ?_;repeat(first|refine XY rfl rfl Q1 rfl rfl ?_|refine XC rfl Q1 rfl Q1 rfl rfl ?_|refine Xn HV rfl rfl Q1 rfl rfl rfl ?_|refine Q2T HV rfl rfl Q1 rfl rfl rfl ?_|refine Q6w rfl Tryz.underlying25 rfl Q1 rfl rfl ?_|refine Jk rfl rfl Q1 rfl rfl rfl QT ?_|refine Xe rfl rfl Q1 rfl rfl rfl ?_));exact h0'.o):p:=h ⟨hq⟩
theorem QsP(h:Hq q->p:=by intro h0';refine yq<|yq<|yr<|yo zM<|yo zM<|yo zL<|yo zlt<|yl<|yn<|y1<|ys<|yn<|yq<|yb<|yq<|yr<|yo zM<|yo zM<|yo (zi1 (hj:=hjlt)) ?_;refine Q4 (Xz rfl rfl Q1 rfl rfl (fun w hw=>hw.cell_row 0 rfl (by rw[Nat.zero_add];exact hcell))) ?_;refine yo zA<|yl<|yn<|yq<|yr<|yo zM<|yo zM ?_;refine Q4 (VN rfl rfl Q1 rfl rfl rfl (fun w hw=>Q3e _ w)) ?_;rw[he];exact h0'.o):p:=h ⟨hq⟩
theorem Qbs(h:Hq q->p:=by intro h0';refine Q4 zA ?_;refine Q4 zA ?_;exact h0'.o):p:=h ⟨hq⟩
theorem QqN(h:Hq q->p:=by intro h0';refine yq<|yq<|yr<|yo zM<|yo zF<|yo (zB 0)<|yo zL<|yo zlt<|yl<|yn<|y1<|ys<|yn<|yq<|yb<|yq<|yq<|yr<|yo zF<|yo (zB 0)<|yo zM<|yo zi1<|yo zC<|yo zsa<|yl<|yn<|y0<|ys<|yn<|yq<|yq<|yr<|yo zF<|yo (zB 0)<|yo zM<|yo zi1<|yo zC ?_;refine Q4 (Ql (f:=70) rfl rfl Q1 rfl rfl (fun w hw=>(Q4K nm hnl w).mono (fun _ _ h=>by rw[H1.out] at h;exact h))) ?_;exact h0'.o):p:=h ⟨hq⟩
theorem Qg7(h:Hq q->p:=by intro h0';refine JW ?_;refine yn<|y0<|ys<|yn<|yr<|yo zM<|yo zP<|yo zA<|yl ?_;exact h0'.o):p:=h ⟨hq⟩
theorem Qov(h:Hq q->p:=by intro h0';refine yq<|yq<|yr<|yo zM<|yo zF<|yo (zB 0)<|yo zL<|yo zlt<|yl<|yn<|y1<|ys<|yn<|yq<|yb<|yq<|yr<|yo zM ?_;refine Q4 (X5 (r:=S10++Q++[32]) rfl rfl rfl Q1 rfl rfl rfl Q0N) ?_;exact h0'.o):p:=h ⟨hq⟩
theorem QqI(h:Hq q->p:=by intro h0';refine Q4 (Qvp (bs:=[dgc m]) rfl rfl Q1 rfl rfl Q84) ?_;refine yo zM ?_;refine Q4 (X5 (a:=[dgc m]) (b:=s) (r:=dgc m::s) rfl rfl rfl Q1 rfl rfl rfl (by simp only[List.length_cons,List.length_nil];omega)) ?_;refine yo zA<|yl<|yn<|yr<|yo zM ?_;refine Q4 (QfD hq Q3 Q1 rfl rfl Q1 rfl rfl rfl) ?_;refine yo zA<|yl<|yd ?_;exact h0'.o):p:=h ⟨hq⟩
theorem QrX(h:Hq q->p:=by intro h0';refine yq<|yq<|yr<|yo zM<|yo zM<|yo zL<|yo zlt<|yl<|yn<|y1<|ys<|yn<|yq<|yb<|yq<|Xm Q5 Q5 ?_;refine Qe zM ?_;exact h0'.o):p:=h ⟨hq⟩
theorem Qr7(h:Hq q->p:=by intro h0';refine yo zA<|yl<|yn<|yq<|yq<|yr<|yo zF<|yo (zB 0)<|yo zef<|yl<|yn<|y0<|ys<|yn<|yq<|yq<|yr<|yo zF<|yo (zB 0)<|yo zet<|yo zM<|yo zF<|yo (zB 0)<|yo zY<|yl<|yn<|y0<|ys<|yn<|yq<|yq<|yr<|yo zF<|yo (zB 0)<|yo zet<|yl<|yn<|y1<|yq<|yr<|yo zF<|yo (zB 0)<|yo zF<|yo (zB 0) ?_;refine Q4 (Qfp (n:=256) hm1 Q1 rfl rfl Q1 rfl rfl rfl) ?_;exact h0'.o):p:=h ⟨hq⟩
theorem Qss(h:Hq q->p:=by intro h0';(refine Yf ?_;repeat(first|refine XY rfl rfl Q1 rfl rfl ?_|refine XC rfl Q1 rfl Q1 rfl rfl ?_|refine Q0S HV rfl rfl Q1 rfl rfl rfl ?_|refine QV rfl rfl Q1 rfl rfl rfl ?_|refine Xe rfl rfl Q1 rfl rfl rfl ?_|refine Qom rfl rfl Q1 rfl rfl ?_|refine Q0O rfl Q1 rfl ?_));exact h0'.o):p:=h ⟨hq⟩
theorem QrM(h:Hq q->p:=by intro h0';refine JJ [12] Q5 ?_;refine Qc 0 rfl Q5 Xt (Xz rfl rfl Q1 rfl rfl (by exact fun w hw=>hw.cell_blkL 2 rfl rfl)) ?_;refine Qc 1 rfl Q5 Xt Kd ?_;refine Qc 2 rfl Q5 Xt (Xz rfl rfl Q1 rfl rfl (by exact fun w hw=>hw.cell_blkL 2 rfl rfl)) ?_;refine Qc 3 rfl Q5 Xt Kd ?_;refine Qc 4 rfl Q5 Xt (Z5 rfl rfl Q1 rfl rfl rfl hkn) ?_;refine Qc 5 rfl Q5 Xt (Xz rfl rfl Q1 rfl rfl (fun w hw=>hw.cell_row 3 rfl hcell)) ?_;refine Qc 6 rfl Q5 Xt Kd ?_;exact h0'.o):p:=h ⟨hq⟩
theorem Qgj(h:Hq q->p:=by intro h0';(repeat(first|refine Q4 zM ?_|refine Q4 zA ?_|refine Q4 zF ?_|refine Q4 (zB 0) ?_|refine Q4 (Ql (f:=140) rfl rfl Q1 rfl rfl (fun w hw=>(Q5E (HE.out.on hw.k.below) hm).mono (fun _ _ h=>h))) ?_|refine Qg ?_|refine Qa ?_|refine Q6 ?_|refine Q4 zhr ?_));exact h0'.o):p:=h ⟨hq⟩
theorem Qmc(h:Hq q->p:=by intro h0';(repeat(first|refine Q4 zM ?_|refine Q4 zA ?_|refine Q4 zF ?_|refine Q4 (zB 0) ?_|refine Qg ?_|refine Qa ?_|refine Q6 ?_|refine Q8 rfl ?_|refine Q4 zL ?_|refine Q4 Q37 ?_|refine Q4 zgr ?_|refine Q4 zN ?_|refine Q4 zS ?_));exact h0'.o):p:=h ⟨hq⟩
theorem Qgh(h:Hq q->p:=by intro h0';(repeat(first|refine Q4 zM ?_|refine Q4 zA ?_|refine Q4 (zD 0) ?_|refine Q4 (Ql (f:=149) rfl rfl Q1 rfl rfl (fun w hw=>Q9F (by simpa using h3) hn (HL.out.on hw.k.below).p HS.out.parts)) ?_|refine Qg ?_|refine Qa ?_|refine Q6 ?_|refine Q4 zO ?_));exact h0'.o):p:=h ⟨hq⟩
theorem QgS(h:Hq q->p:=by intro h0';(repeat(first|refine Q4 zA ?_|refine Q4 zF ?_|refine Q4 (zB 0) ?_|refine Q4 Qm0 ?_|refine Qg ?_|refine Qa ?_|refine Q6 ?_|refine Q4 zO ?_));exact h0'.o):p:=h ⟨hq⟩
theorem Qlw(h:Hq q->p:=by intro h0';refine QtA ?_;refine Qe zet ?_;refine Q4L ?_;refine Qe (zB 0) ?_;refine Qe zL ?_;refine Qe zet ?_;refine Qp0 ?_;refine Qe (zG c0) ?_;exact h0'.o):p:=h ⟨hq⟩
theorem QhK(h:Hq q->p:=by intro h0';refine Qe (zi1 (hj:=hkn)) ?_;refine Qe (zG hc) ?_;refine Q60 ?_;refine Qe (zi1 (hj:=hkn)) ?_;refine Qe (zG hc2) ?_;refine Qe Qhp ?_;exact h0'.o):p:=h ⟨hq⟩
theorem Qr0(h:Hq q->p:=by intro h0';refine yq<|yq<|yr<|yo zM<|yo zF<|yo (zB 1)<|yo zL<|yo zlt<|yl<|yn<|y1<|ys<|yn<|yq<|yb<|yq<|Xm Q5 Q5 ?_;refine Qe (zD 1) ?_;refine Q51 ?_;refine Qe zM ?_;refine Qe (zi (hj:=hkn)) ?_;refine Qe zE ?_;refine Qe (Ql (f:=36) rfl rfl Q1 rfl rfl (fun w hw=>(Qan KO (HLK.out.on hw.k.below) HOK.out HSM.out).mono QcA)) ?_;refine Q05 ?_;exact h0'.o):p:=h ⟨hq⟩
theorem Qkp(h:Hq q->p:=by intro h0';refine Qc 3 rfl Q5 Xt zF ?_;refine Qc 4 rfl Q5 Xt (zB 2) ?_;refine Qc 5 rfl Q5 Xt (Ql (f:=114) rfl rfl Q1 rfl rfl (fun w hw=>Q2d Q10 Q3 Q3)) ?_;exact h0'.o):p:=h ⟨hq⟩
theorem Qok(h:Hq q->p:=by intro h0';refine Q4L ?_;refine Qe (zB 1) ?_;refine QaV ?_;refine Qe zM ?_;refine Qe zi1 ?_;refine Qe zC ?_;refine Qe (QG rfl rfl Q1 rfl rfl rfl Q3) ?_;refine Qe zF ?_;exact h0'.o):p:=h ⟨hq⟩
theorem Qqu(h:Hq q->p:=by intro h0';refine yq<|yq<|yr<|yo zM<|yo zF<|yo (zB 0)<|yo zL<|yo zlt<|yl<|yn<|y1<|ys<|yn<|yq<|yb<|yq<|yq<|yr<|yo zF<|yo (zB 0)<|yo zM<|yo zi1<|yo zC<|yo zsa<|yl<|yn<|y1<|yq<|yq<|Xm Q5 Q5 ?_;refine Q51 ?_;refine QaV ?_;refine Qe zM ?_;refine Qe zi1 ?_;refine Qe zC ?_;refine Qe (QG rfl rfl Q1 rfl rfl rfl Q3) ?_;refine Qe zF ?_;exact h0'.o):p:=h ⟨hq⟩
theorem QmQ(h:Hq q->p:=by intro h0';refine yq<|yq<|yr<|yo zM<|yo zF<|yo (zB 0)<|yo zL<|yo zlt<|yl<|yn<|y1<|ys<|yn<|yq<|yb<|yq<|yq<|yr<|yo zM<|yo zF<|yo (zB 0)<|yo zM<|yo zi1<|yo zC ?_;refine Q4 KJ ?_;exact h0'.o):p:=h ⟨hq⟩
theorem Qg8(h:Hq q->p:=by intro h0';(repeat(first|refine Q4 zA ?_|refine Qg ?_|refine Qa ?_|refine Q6 ?_|refine Qp ?_|refine QC ?_));exact h0'.o):p:=h ⟨hq⟩
theorem Q4Q(h:Hq q->p:=by intro h0';rw[Q6h (by dsimp only;omega) (by dsimp only;omega)];exact h0'.o):p:=h ⟨hq⟩
theorem QgE(h:Hq q->p:=by intro h0';refine yo zA<|yl<|yn<|yq<|yr<|yo zF<|yo (zB 0)<|yo zM ?_;exact h0'.o):p:=h ⟨hq⟩
theorem Qgs(h:Hq q->p:=by intro h0';refine yq<|yq<|yr<|yo zM<|yo zF<|yo (zB 1)<|yo zL<|yo zlt<|yl<|yn<|y1<|ys<|yn<|yq<|yb<|yq<|yr<|yo (zD 1)<|yo zM ?_;exact h0'.o):p:=h ⟨hq⟩
theorem QrJ(h:Hq q->p:=by intro h0';(repeat(first|refine Q4 zM ?_|refine Q4 zA ?_|refine Q4 zF ?_|refine Q4 (zB 0) ?_|refine Qg ?_|refine Qa ?_|refine Q6 ?_|refine Q8 rfl ?_|refine Q4 zL ?_|refine Q4 zea ?_|refine Q4 (YV rfl rfl Q1 rfl rfl rfl (by first|assumption|rfl)) ?_|refine Q4 zN ?_|refine Q4 zS ?_));exact h0'.o):p:=h ⟨hq⟩
theorem QjY(h:Hq q->p:=by intro h0';refine yo zF<|yo (zB 0) ?_;refine Q4 (Yz rfl rfl Q1 rfl rfl rfl (by first|exact beq_iff_eq.2 Q3|exact beq_eq_false_iff_ne.2 Q3)) ?_;refine yo zM ?_;exact h0'.o):p:=h ⟨hq⟩
theorem Q0b(h:Hq q->p:=by intro h0';refine Q4 zM ?_;refine Q4 zM ?_;exact h0'.o):p:=h ⟨hq⟩
theorem Q8D(h:Hq q->p:=by intro h0';refine yo zM<|yo zX<|yo zX ?_;exact h0'.o):p:=h ⟨hq⟩
theorem Qrs(h:Hq q->p:=by intro h0';refine yo zA<|yl<|yn<|yq<|yq<|yr<|yo zF<|yo (zB 0)<|yo zef<|yl<|yn<|y0<|ys<|yn<|yq<|yq<|yr<|yo zF<|yo (zB 0)<|yo zef<|yo zM<|yo zS<|yo zS<|yo zN<|yl<|yn<|y0<|ys<|yn<|yq<|yq<|yr<|yo zF<|yo (zB 0)<|yo zef<|yl<|yn<|y0<|ys<|yn<|yq<|yq<|yr<|yo zF<|yo (zB 0)<|yo zet<|yl<|yn<|y1<|yq<|yr<|yo zM ?_;exact h0'.o):p:=h ⟨hq⟩
theorem QfZ(h:Hq q->p:=by intro h0';refine yo zM<|yo zqf<|yo zM<|yo zS<|yo zS<|yo zS<|yo zS<|yo zS<|yo zS<|yo zN<|yo zA<|yl<|yn<|yt<|yc ?_;exact h0'.o):p:=h ⟨hq⟩
theorem QmW(h:Hq q->p:=by intro h0';(repeat(first|refine Q4 Q0p ?_|refine Qg ?_|refine Qa ?_|refine Q6 ?_|refine QC ?_|refine Qk ?_|refine Qu ?_));exact h0'.o):p:=h ⟨hq⟩
theorem QlI(h:Hq q->p:=by intro h0';rw[Nat.zero_add,Nat.mul_one,Q14];refine Q4 (X4 (cs:=QP _) rfl rfl Q1 rfl rfl (fun w hw=>hw.range_blk 0 rfl) (Xj _)) ?_;exact h0'.o):p:=h ⟨hq⟩
theorem Qrn(h:Hq q->p:=by intro h0';(repeat(first|refine Q4 zM ?_|refine Q4 zA ?_|refine Q4 (Q3j (v:=.bool (st cc)) rfl rfl Q1 rfl rfl rfl hcn (ZI st hcn)) ?_|refine Qg ?_|refine Qa ?_|refine Q6 ?_|refine Qp ?_|refine Q9 rfl ?_|refine Qi ?_|refine Q4 zlt ?_));exact h0'.o):p:=h ⟨hq⟩
theorem Qgd(h:Hq q->p:=by intro h0';rw[List.getElem?_map,List.getD_eq_getElem?_getD,List.getElem?_eq_getElem h];exact h0'.o):p:=h ⟨hq⟩
theorem Qow(h:Hq q->p:=by intro h0';refine yq<|yq<|yr<|yo zM<|yo zM<|yo zlt<|yl<|yn<|y1<|ys<|yn<|yq<|yb<|yq<|Xm Q5 Q5 ?_;exact h0'.o):p:=h ⟨hq⟩
theorem Q7f(h:Hq q->p:=by intro h0';refine yo zA<|yl<|yn<|yq<|yq<|yr<|yo zA<|yl<|yn<|yb ?_;exact h0'.o):p:=h ⟨hq⟩
theorem Qcl(h:Hq q->p:=by intro h0';refine Qc 0 rfl Q5 Xt zM ?_;refine Qc 1 rfl Q5 Xt (zD 2) ?_;exact h0'.o):p:=h ⟨hq⟩
theorem Qsg(h:Hq q->p:=by intro h0';refine yq<|yq<|yr<|yo zM<|yo zF<|yo (zB 2)<|yo zL<|yo zlf<|yl<|yn<|y0<|ye<|yn<|yq<|yq<|yr<|yo (zD 2) ?_;refine Q4 (Ql (f:=41) rfl rfl Q1 rfl rfl (fun w hw=>(Q7k KO HF.out hn40 hn0 HNM.out).mono (fun _ _ h=>by rw[HTX.out] at h;exact h))) ?_;exact h0'.o):p:=h ⟨hq⟩
theorem Qhe(h:Hq q->p:=by intro h0';simp only[List.length_append,List.length_cons,List.length_nil];exact h0'.o):p:=h ⟨hq⟩
theorem QqX(h:Hq q->p:=by intro h0';refine Qc 0 rfl Q5 Q6y zM ?_;refine Qc 1 rfl Q5 Q6y zM ?_;refine Qc 2 rfl Q5 Q6y mc5 ?_;refine Qc 3 rfl Q5 Q6y zF ?_;refine Qc 4 rfl Q5 Q6y (zB 1) ?_;refine Qc 5 rfl Q5 Q6y zF ?_;refine Qc 6 rfl Q5 Q6y (zB 0) ?_;exact h0'.o):p:=h ⟨hq⟩
theorem Qqh(h:Hq q->p:=by intro h0';refine Qc 0 rfl Q5 Q0G zM ?_;refine Qc 1 rfl Q5 Q0G zM ?_;refine Qc 2 rfl Q5 Q0G mc5 ?_;refine Qc 3 rfl Q5 Q0G zF ?_;refine Qc 4 rfl Q5 Q0G (zB 1) ?_;refine Qc 5 rfl Q5 Q0G zF ?_;refine Qc 6 rfl Q5 Q0G (zB 0) ?_;exact h0'.o):p:=h ⟨hq⟩
theorem QjH(h:Hq q->p:=by intro h0';refine bodyPost_ret (v:=.tuple #[.int .i64 0,.agg #[.int .i64 2,.int .i64 (num:Int)]]) (by simp [results,Tryz.results101,go_sem]) rfl ?_;exact h0'.o):p:=h ⟨hq⟩
theorem Qs3(h:Hq q->p:=by intro h0';refine yq<|yq<|yr<|yo zM<|yo zlt<|yl<|yn<|y1<|ys<|yn<|yq<|yb<|yq<|yq<|yr<|yo zF<|yo (zB 0)<|yo zet<|yo zM<|yo zM<|yo zF<|yo (zB 0)<|yo zet<|yo zY<|yo zM<|yo zM<|yo zF<|yo (zB 0) ?_;refine Q4 (J6 rfl rfl Q1 rfl rfl rfl he) ?_;exact h0'.o):p:=h ⟨hq⟩
theorem Qjn(h:Hq q->p:=by intro h0';refine yW 0 ?_;refine yl<|yn<|yq<|yr<|yo zM<|yo zF<|yo (zB 1) ?_;refine Q4 KJ ?_;refine yo zC<|yo zht<|yo zM<|yo (zD 0) ?_;exact h0'.o):p:=h ⟨hq⟩
theorem Q27(h:Hq q->p:=by intro h0';refine Qd9 _ Q5 Q5 ?_;exact h0'.o):p:=h ⟨hq⟩
theorem QkM(h:Hq q->p:=by intro h0';refine Qe zM ?_;refine mc9 ?_;refine Qhg ?_;refine Qe zS ?_;refine Qe zN ?_;refine Q05 ?_;refine yn<|yt<|yk<|yc ?_;exact h0'.o):p:=h ⟨hq⟩
theorem Qqi(h:Hq q->p:=by intro h0';refine yq<|yr<|yo zlt<|yl<|yn<|yq<|y1<|ys<|yn<|yq<|yb<|yq<|yr<|yo zM<|yo zA<|yl<|yn<|yq<|yr<|yo zM<|yo zM<|yo zM<|yo (zi1 (hj:=hkn))<|yo (zG hc) ?_;refine Q4 (VN rfl rfl Q1 rfl rfl rfl (fun w hw=>Q3e _ w)) ?_;rw[he];exact h0'.o):p:=h ⟨hq⟩
theorem Qm4(h:Hq q->p:=by intro h0';(repeat(first|refine Q4 zM ?_|refine Qg ?_|refine Q6 ?_|refine Q4 zP ?_));exact h0'.o):p:=h ⟨hq⟩
theorem QrB(h:Hq q->p:=by intro h0';refine yq<|yq<|yr<|yo zM<|yo zF<|yo (zB 0)<|yo zL<|yo zlt<|yl<|yn<|y1<|ys<|yn<|yq<|yb<|yq<|yr<|yo zM<|yo zF<|yo (zB 0)<|yo zM<|yo (zi1 (hj:=hjl))<|yo (zG hcx) ?_;refine Q4 (J6 rfl rfl Q1 rfl rfl rfl hxn) ?_;exact h0'.o):p:=h ⟨hq⟩
theorem Qqx(h:Hq q->p:=by intro h0';refine ih (listed.setIfInBounds j true) (a.put oj.dst u) G (hcl.set hj) hG hGC hfree' (ready_mono hr (Ne.symm hji)) (hy.put (fun cs b=>hsel i oi cs b hi) a3) ?_;rw[Array.setIfInBounds_comm _ _ hji,<- Act.put_comm a v u a2];exact h0'.o):p:=h ⟨hq⟩
theorem Q58(h:Hq q->p:=by intro h0';refine yW 0 ?_;refine yl ?_;exact h0'.o):p:=h ⟨hq⟩
theorem Qju(h:Hq q->p:=by intro h0';refine JW ?_;refine yn<|y1<|yq<|yr<|yo zA<|yl<|yn<|yt<|yk<|yc<|yc<|yk<|yc ?_;exact h0'.o):p:=h ⟨hq⟩
theorem QoA(h:Hq q->p:=by intro h0';refine yq<|yq<|yr<|yo zM<|yo zF<|yo (zB 1)<|yo zL<|yo zlf<|yl<|yn<|y0<|ye<|yn<|yq<|yq<|yr<|yo zA<|yl<|yn<|yb ?_;exact h0'.o):p:=h ⟨hq⟩
theorem Q26(h:Hq q->p:=by intro h0';refine Qvv ?_;refine yo zO<|yl ?_;exact h0'.o):p:=h ⟨hq⟩
theorem Qqj(h:Hq q->p:=by intro h0';refine yo zF<|yo (zB 0)<|yo zM<|yo zi1<|yo zC<|yo zM ?_;refine Q4 (Ql (f:=71) rfl rfl Q1 rfl rfl (fun w hw=>(QZ _ _ _ w).mono (fun _ _ h=>by rw[hq] at h;exact h))) ?_;refine yo zO<|yl ?_;exact h0'.o):p:=h ⟨hq⟩
theorem Qqw(h:Hq q->p:=by intro h0';refine yW 0 ?_;refine yl<|yn<|yq<|yq<|yr<|yo zF<|yo (zB 0) ?_;refine Q4 (Ql (f:=70) rfl rfl Q1 rfl rfl (fun w hw=>(Q4K name hnl w).mono (fun _ _ h=>by rw[H1.out] at h;exact h))) ?_;exact h0'.o):p:=h ⟨hq⟩
theorem Qs6(h:Hq q->p:=by intro h0';refine JJ [2] Q5 ?_;refine Qc 0 rfl Q5 Xt (zD 0) ?_;refine Qc 1 rfl Q5 Xt zA ?_;exact h0'.o):p:=h ⟨hq⟩
theorem Qrz(h:Hq q->p:=by intro h0';(repeat(first|refine Q4 zM ?_|refine Q4 zA ?_|refine Q4 zF ?_|refine Q4 (zB 0) ?_|refine Qg ?_|refine Qa ?_|refine Q6 ?_|refine Q4 zL ?_|refine Q4 Q37 ?_|refine Q4 zY ?_));exact h0'.o):p:=h ⟨hq⟩
theorem Qqn(h:Hq q->p:=by intro h0';(repeat(first|refine Q4 zM ?_|refine Q4 zA ?_|refine Qg ?_|refine Qa ?_|refine Q6 ?_|refine Q8 rfl ?_|refine Xx ?_|refine QC ?_|refine Q4 zL ?_|refine Q4 zgf ?_));exact h0'.o):p:=h ⟨hq⟩
theorem QqG(h:Hq q->p:=by intro h0';refine Q4 (Qfp Q3 Q1 rfl rfl Q1 rfl rfl rfl) ?_;refine yo zP ?_;refine Q4 (Q4n rfl rfl Q1 rfl rfl (by rw[Tryz.underlying3];rfl) Tryz.underlying5 (Ql0 m _ rfl)) ?_;exact h0'.o):p:=h ⟨hq⟩
theorem QcN(h:Hq q->p:=by intro h0';rw[List.getD_eq_getElem?_getD,List.getElem?_eq_getElem h];exact h0'.o):p:=h ⟨hq⟩
theorem Q6W(h:Hq q->p:=by intro h0';refine yo zM<|yo zef<|yl ?_;refine QoR ?_;exact h0'.o):p:=h ⟨hq⟩
theorem Qrt(h:Hq q->p:=by intro h0';refine Qt (cc+1) [0,1,2] Q1 Q3 (by show 256 - (cc+1)<256 - cc;omega) (.cons rfl rfl (.cons rfl rfl (.cons rfl rfl (.cons rfl rfl (.cons rfl rfl (.cons rfl rfl Q1T)))))) ?_;exact h0'.o):p:=h ⟨hq⟩
theorem Qln(h:Hq q->p:=by intro h0';refine yq<|yr<|yo zF<|yo (zB 0)<|yo zef<|yo zM<|yo zF<|yo (zB 0)<|yo zef<|yo zN<|yl<|yn<|y0<|ys ?_;exact h0'.o):p:=h ⟨hq⟩
theorem Qrx(h:Hq q->p:=by intro h0';refine yq<|yr<|yo zlt<|yl<|yn<|yq<|y1<|ys<|yn<|yq<|yb<|yq<|yr<|yo zM<|yo zi1 ?_;refine Q4 (Xz rfl rfl Q1 rfl rfl (fun w hw=>hw.cell_old hcell (by simpa using hqg))) ?_;exact h0'.o):p:=h ⟨hq⟩
theorem Qc2(h:Hq q->p:=by intro h0';refine yo zA ?_;refine yW 0 ?_;exact h0'.o):p:=h ⟨hq⟩
theorem Q8u(h:Hq q->p:=by intro h0';refine Q4 zM ?_;refine Q4 zL ?_;exact h0'.o):p:=h ⟨hq⟩
theorem Qgb(h:Hq q->p:=by intro h0';(repeat(first|refine Q4 zA ?_|refine Q4 (zD 0) ?_|refine Q4 QkD ?_|refine Qg ?_|refine Qa ?_|refine Q6 ?_|refine Qp ?_|refine Q8 rfl ?_));exact h0'.o):p:=h ⟨hq⟩
theorem QhG(h:Hq q->p:=by intro h0';(repeat(first|refine Q4 zA ?_|refine Q4 (zD 0) ?_|refine Q4 (Ql (f:=148) rfl rfl Q1 rfl rfl (fun w hw=>QaR w)) ?_|refine Qg ?_|refine Qa ?_|refine Q6 ?_|refine Q4 zO ?_));exact h0'.o):p:=h ⟨hq⟩
theorem Qsy(h:Hq q->p:=by intro h0';refine yq<|yq<|yr<|yo zM<|yo zF<|yo (zB 1)<|yo zL<|yo zlt<|yl<|yn<|y1<|ys<|yn<|yq<|yb<|yq<|Xm Q5 Q5 ?_;refine Q51 ?_;refine Qe zM ?_;refine Qe (zi (hj:=hilt)) ?_;refine Qe (X4 rfl rfl Q1 rfl rfl (fun w hw=>hw.range_old hg1 Qn) rfl) ?_;refine QaV ?_;refine Qe zM ?_;refine Qe (zi (hj:=hilt)) ?_;refine Qe (X4 rfl rfl Q1 rfl rfl (fun w hw=>hw.range_old hg2 Qn) rfl) ?_;refine Qe (Ql rfl rfl Q1 rfl rfl (fun w hw=>(HAL.out.1 d2 p2 w _ _ HFL.out.1.2.2.1 HFL.out.2.1 HFL.out.2.2.1 (HV1.out.on hw.k.below) (HV2.out.on hw.k.below)).mono (fun e w' h=>by rw[HQ.out] at h;exact h))) ?_;refine Qe zO ?_;exact h0'.o):p:=h ⟨hq⟩
theorem Qs0(h:Hq q->p:=by intro h0';refine ZT 0 rfl Q5 VH zM ?_;refine ZT 1 rfl Q5 VH zM ?_;refine ZT 2 rfl Q5 VH mc5 ?_;refine ZT 3 rfl Q5 VH zF ?_;refine ZT 4 rfl Q5 VH zF ?_;refine ZT 5 rfl Q5 VH (zB 2) ?_;refine ZT 6 rfl Q5 VH zF ?_;refine ZT 7 rfl Q5 VH (zB 0) ?_;refine ZT 8 rfl Q5 VH (QG rfl rfl Q1 rfl rfl rfl hct2) ?_;refine ZT 9 rfl Q5 VH (X4 rfl rfl Q1 rfl rfl (fun w hw=>hw.range_old hrg2 hbM) rfl) ?_;refine ZT 10 rfl Q5 VH zF ?_;refine ZT 11 rfl Q5 VH (zB 1) ?_;refine ZT 12 rfl Q5 VH zL ?_;exact h0'.o):p:=h ⟨hq⟩
theorem Qrm(h:Hq q->p:=by intro h0';refine Q2v ?_;refine Q4 (Ql (f:=71) rfl rfl Q1 rfl rfl (fun w hw=>(QZ 7 1 10 w).mono Q64)) ?_;refine Q3L ?_;exact h0'.o):p:=h ⟨hq⟩
theorem Qse(h:Hq q->p:=by intro h0';refine Q2v ?_;refine Q4 (Ql (f:=71) rfl rfl Q1 rfl rfl (fun w hw=>(QZ 1 1 10 w).mono Q64)) ?_;refine Q3L ?_;exact h0'.o):p:=h ⟨hq⟩
theorem QqT(h:Hq q->p:=by intro h0';(repeat(first|refine Qe zM ?_|refine Qe zA ?_|refine Qe zF ?_|refine Qe (zB 2) ?_|refine Qe (zD 0) ?_|refine Qe (Q1g rfl rfl Q1 rfl rfl rfl hkc) ?_|refine Qe (Ql (f:=115) rfl rfl Q1 rfl rfl (fun w hw=>(Q5K ((HFM.out.on hw.k.below).take hk hc) (HLK.out.on hw.k.below) HSM.out Q3 hsz).mono (fun _ _ h=>h))) ?_|refine JW ?_|refine Xm Q5 Q5 ?_));exact h0'.o):p:=h ⟨hq⟩
theorem Qt1(h:Hq q->p:=by intro h0';refine Q2v ?_;refine Q4 (Ql (f:=71) rfl rfl Q1 rfl rfl (fun w hw=>(QZ kind 1 10 w).mono Q64)) ?_;exact h0'.o):p:=h ⟨hq⟩
theorem QsE(h:Hq q->p:=by intro h0';refine Xk [.blk g (.cells ([.slice Af nn cf,.slice Ai (xs++uy.take i).length ci,.int .i64 (n:Int)]:List Value).toArray 77 (0,0))] [13] Q5 ?_;refine Qc 0 rfl Q5 JM zM ?_;refine Qc 1 rfl Q5 JM zM ?_;refine Qc 2 rfl Q5 JM mc5 ?_;refine Qc 3 rfl Q5 JM zF ?_;refine Qc 4 rfl Q5 JM (zB 0) ?_;refine Qc 5 rfl Q5 JM zM ?_;refine Qc 6 rfl Q5 JM zM ?_;refine Qc 7 rfl Q5 JM (Qoj rfl rfl Q1 rfl rfl rfl Q3 Q3) ?_;refine Qc 8 rfl Q5 JM Q2b ?_;exact h0'.o):p:=h ⟨hq⟩
theorem Qg3(h:Hq q->p:=by intro h0';refine QaV ?_;refine Qe zM ?_;refine Qe zi1 ?_;refine Qe zC ?_;exact h0'.o):p:=h ⟨hq⟩
theorem QqW(h:Hq q->p:=by intro h0';refine Qq7 ?_;refine Q4 (Ql (f:=104) rfl rfl Q1 rfl rfl (fun w hw=>QvA w)) ?_;refine QgE ?_;refine Q4 (KC (n:=16777216) hm1 Q1 rfl rfl Q1 rfl rfl rfl) ?_;exact h0'.o):p:=h ⟨hq⟩
theorem Qrl(h:Hq q->p:=by intro h0';refine Qq7 ?_;refine Q4 (Ql (f:=104) rfl rfl Q1 rfl rfl (fun w hw=>QvJ w)) ?_;refine QgE ?_;refine Q4 (KC (n:=65536) hm1 Q1 rfl rfl Q1 rfl rfl rfl) ?_;exact h0'.o):p:=h ⟨hq⟩
theorem QsO(h:Hq q->p:=by intro h0';refine Qq7 ?_;refine Q4 (Ql (f:=104) rfl rfl Q1 rfl rfl (fun w hw=>QvP w)) ?_;refine QgE ?_;refine Q4 (KC (n:=256) hm1 Q1 rfl rfl Q1 rfl rfl rfl) ?_;exact h0'.o):p:=h ⟨hq⟩
theorem Qsr(h:Hq q->p:=by intro h0';refine Qq7 ?_;refine Q4 (Ql (f:=104) rfl rfl Q1 rfl rfl (fun w hw=>QvH w)) ?_;refine QgE ?_;refine Q4 (KC (n:=1) hm1 Q1 rfl rfl Q1 rfl rfl rfl) ?_;exact h0'.o):p:=h ⟨hq⟩
theorem QsD(h:Hq q->p:=by intro h0';refine JJ [14] Q5 ?_;refine Qc 0 rfl Q5 Xt zM ?_;refine Qc 1 rfl Q5 Xt zM ?_;refine Qc 2 rfl Q5 Xt zM ?_;refine Qc 3 rfl Q5 Xt zM ?_;refine Qc 4 rfl Q5 Xt zM ?_;refine Qc 5 rfl Q5 Xt zM ?_;refine Qc 6 rfl Q5 Xt (zi (hj:=hkn)) ?_;refine Qc 7 rfl Q5 Xt (Jc rfl rfl Q1 rfl rfl rfl hcn) ?_;refine Qc 8 rfl Q5 Xt (zK 1 hcell) ?_;refine Qc 9 rfl Q5 Xt zM ?_;exact h0'.o):p:=h ⟨hq⟩
theorem Qsm(h:Hq q->p:=by intro h0';refine yo zef<|yo zY<|yl<|yn<|y0<|yq<|yr<|yo zM<|yo zF<|yo (zB 1) ?_;refine Q4 KJ ?_;refine yo zC<|yo zht<|yo zM<|yo zM<|yo zF<|yo (zB 1) ?_;refine Q4 KJ ?_;exact h0'.o):p:=h ⟨hq⟩
theorem Qhq(h:Hq q->p:=by intro h0';refine yo zM<|yo zqt<|yo zM<|yo zM<|yo zF<|yo (zB 0)<|yo zM ?_;exact h0'.o):p:=h ⟨hq⟩
theorem QrG(h:Hq q->p:=by intro h0';(repeat(first|refine Q4 zA ?_|refine Qg ?_|refine Qa ?_|refine Q6 ?_|refine Q8 rfl ?_|refine Xx ?_|refine QC ?_|refine Q4 zlf ?_));exact h0'.o):p:=h ⟨hq⟩
theorem Qsq(h:Hq q->p:=by intro h0';(repeat(first|refine Q4 zA ?_|refine Q4 zF ?_|refine Q4 (zB 0) ?_|refine Qg ?_|refine Qa ?_|refine Q6 ?_|refine Q4 zL ?_|refine Q4 zgr ?_));exact h0'.o):p:=h ⟨hq⟩
theorem QsG(h:Hq q->p:=by intro h0';unfold Oper.wp execOp;simp only[ho,resolve,invoke,builtin,Sem.run_bind,Sem.run_pure,Result.andThen_ok,List.map_toArray,List.map_cons,List.map_nil,hs,hx,hrun];exact h0'.o):p:=h ⟨hq⟩
theorem Qma(h:Hq q->p:=by intro h0';refine yq<|yq<|yr<|yo zM<|yo zlf<|yl<|yn<|y0<|ye<|yn<|yq<|yr<|yo zA<|yl<|yn<|yt ?_;exact h0'.o):p:=h ⟨hq⟩
theorem Qsb(h:Hq q->p:=by intro h0';refine yo zA<|yl<|yn<|yq<|yq<|yr<|yo zF<|yo (zB 0)<|yo zef<|yo zM<|yo zF<|yo (zB 0)<|yo zef<|yo zN<|yl<|yn<|y0<|ys<|yn<|yq<|yq<|yr<|yo zA<|yl<|yn<|yb ?_;exact h0'.o):p:=h ⟨hq⟩
theorem QqE(h:Hq q->p:=by intro h0';refine Qc 3 rfl Q5 Xt zF ?_;refine Qc 4 rfl Q5 Xt (zB 3) ?_;refine Qc 5 rfl Q5 Xt zF ?_;refine Qc 6 rfl Q5 Xt (zB 2) ?_;exact h0'.o):p:=h ⟨hq⟩
theorem QqA(h:Hq q->p:=by intro h0';refine Qlw ?_;refine Qe zet ?_;refine Qp0 ?_;refine Qe (zG c1) ?_;refine Qe zht ?_;refine Qp0 ?_;refine Qe (zG c1) ?_;refine Q51 ?_;exact h0'.o):p:=h ⟨hq⟩
theorem Qof(h:Hq q->p:=by intro h0';refine yo zA<|yl<|yn<|yq<|yr<|yo zA<|yl<|yn<|yq<|yq<|yr<|yo zA<|yl<|yn<|yb ?_;exact h0'.o):p:=h ⟨hq⟩
theorem Qki(h:Hq q->p:=by intro h0';refine Q4 Q9n ?_;refine yW 1 ?_;refine yl<|yn<|yt<|yk<|yc<|yc<|yk<|yc ?_;exact h0'.o):p:=h ⟨hq⟩
theorem Qqz(h:Hq q->p:=by intro h0';refine yq<|yr<|yo zF<|yo (zB 0)<|yo zef<|yo zM<|yo zF<|yo (zB 0)<|yo zef<|yo zN<|yo zM<|yo zF<|yo (zB 0)<|yo zef<|yo zN<|yl<|yn<|y0<|ys ?_;exact h0'.o):p:=h ⟨hq⟩
theorem QqJ(h:Hq q->p:=by intro h0';refine Qow ?_;refine Q51 ?_;refine Qe zM ?_;refine Qe zi ?_;refine Qe zF ?_;refine Qe zR ?_;refine QaV ?_;refine Qe zsa ?_;exact h0'.o):p:=h ⟨hq⟩
theorem QqL(h:Hq q->p:=by intro h0';refine yW 0 ?_;refine yl<|yn ?_;refine Xk [.blk b3 (.cells ([.int .i64 c,.int .i64 x]:List Value).toArray 32 (0,0))] [] Q5 ?_;exact h0'.o):p:=h ⟨hq⟩
theorem Q34(h:Hq q->p:=by intro h0';refine Q4 zM ?_;refine Zm ?_;exact h0'.o):p:=h ⟨hq⟩
theorem Qsk(h:Hq q->p:=by intro h0';refine bodyPost_ret (v:=.tuple #[.slice A7 out.length c7,.slice A8 out.length c8]) (by simp [results,Tryz.results46,go_sem]) rfl ?_;exact h0'.o):p:=h ⟨hq⟩
theorem Qql(h:Hq q->p:=by intro h0';refine yq<|yr<|yo zlt<|yl<|yn<|yq<|y1<|ys<|yn<|yq<|yb<|yq<|yr<|yo zM<|yo zA<|yl<|yn<|yq<|yr<|yo zM ?_;refine Q4 Qi7 ?_;exact h0'.o):p:=h ⟨hq⟩
theorem QlR(h:Hq q->p:=by intro h0';refine Qe zP ?_;refine Qe (Ql (f:=106) rfl rfl Q1 rfl rfl (fun w hw=>Q6b _ w)) ?_;refine Q05 ?_;exact h0'.o):p:=h ⟨hq⟩
theorem Qf3(h:Hq q->p:=by intro h0';refine yo zF<|yo (zB 1)<|yo zF<|yo (zB 0) ?_;refine Q4 (QG rfl rfl Q1 rfl rfl rfl Q3) ?_;refine yo zF<|yo zR<|yo zA<|yl ?_;refine Qmx ?_;exact h0'.o):p:=h ⟨hq⟩
theorem QjI(h:Hq q->p:=by intro h0';refine bodyPost_ret (v:=.agg #[.int .i64 cd,.int .i64 ix]) (by simp [results,Tryz.results34,go_sem,r0,r1,z4]) rfl ?_;exact h0'.o):p:=h ⟨hq⟩
theorem QaC(h:Hq q->p:=by intro h0';refine yo zqr<|yo zY<|yo zA<|yl<|yn<|yt<|yc ?_;exact h0'.o):p:=h ⟨hq⟩
theorem Qlb(h:Hq q->p:=by intro h0';refine Qt (k+1) [1,2,3,4] Q1 hkn Q3 (.cons rfl rfl (.cons rfl rfl (.cons rfl (by go_num) Vg))) ?_;exact h0'.o):p:=h ⟨hq⟩
theorem Qa9(h:Hq q->p:=by intro h0';refine yo zA<|yl<|yn<|yr<|yo zP<|yo zM<|yl ?_;exact h0'.o):p:=h ⟨hq⟩
theorem Qnm(h:Hq q->p:=by intro h0';refine yo zA<|yl<|yn<|yq<|yq<|yr<|yo zF<|yo (zB 0)<|yo zet<|yo zM<|yo zF<|yo (zB 0)<|yo zM<|yo zi1<|yo zC ?_;exact h0'.o):p:=h ⟨hq⟩
theorem Qnn(h:Hq q->p:=by intro h0';rw[List.getElem?_map,List.getElem?_eq_getElem hj,List.getD_eq_getElem?_getD,List.getElem?_eq_getElem hj];exact h0'.o):p:=h ⟨hq⟩
theorem Qaf(h:Hq q->p:=by intro h0';refine yo zY<|yo zA<|yl<|yn<|yt<|yk<|yc ?_;exact h0'.o):p:=h ⟨hq⟩
theorem Q45(h:Hq q->p:=by intro h0';refine Q05 ?_;refine yn<|yr<|yo zM<|yo zP<|yo zA<|yl ?_;exact h0'.o):p:=h ⟨hq⟩
theorem Q9V(h:Hq q->p:=by intro h0';refine yo zA<|yl ?_;refine Qmx ?_;exact h0'.o):p:=h ⟨hq⟩
theorem YF(h:Hq q->p:=by intro h0';refine Q4 zlt ?_;refine Qg ?_;exact h0'.o):p:=h ⟨hq⟩
theorem Qlu(h:Hq q->p:=by intro h0';refine yq<|yq<|yr<|yo zM<|yo zF<|yo (zB 0)<|yo zL<|yo zlf<|yl<|yn<|y0<|ye<|yn<|yr<|yo zM<|yo zM ?_;exact h0'.o):p:=h ⟨hq⟩
theorem QmN(h:Hq q->p:=by intro h0';refine bodyPost_ret (v:=.tuple #[.slice none 0 0,.agg #[.int .i64 c,.int .i64 ix]]) Qnu rfl ?_;exact h0'.o):p:=h ⟨hq⟩
theorem KA(h:Hq q->p:=by intro h0';refine Q4 zF ?_;refine Q4 (zB 2) ?_;exact h0'.o):p:=h ⟨hq⟩
theorem Qf1(h:Hq q->p:=by intro h0';refine yn<|yq<|yq<|yr<|yo zM ?_;refine Q4 QkW ?_;exact h0'.o):p:=h ⟨hq⟩
theorem Qk5(h:Hq q->p:=by intro h0';(repeat(first|refine Q4 Kd ?_|refine Q4 Q0p ?_|refine Q4 (Xz rfl rfl Q1 rfl rfl (by exact fun w hw=>hw.cell_old QT Qn)) ?_|refine Q4 QcC ?_|refine Qg ?_|refine Qa ?_|refine Q6 ?_|refine Qp ?_|refine Q9 rfl ?_|refine Qi ?_|refine Q4 QfY ?_));exact h0'.o):p:=h ⟨hq⟩
theorem QoC(h:Hq q->p:=by intro h0';refine Qc 12 rfl Q5 Xt Q4O ?_;refine Qc 13 rfl Q5 Xt (Jc rfl rfl Q1 rfl rfl rfl hcn) ?_;exact h0'.o):p:=h ⟨hq⟩
theorem QnP(h:Hq q->p:=by intro h0';refine Q0b ?_;refine Q4 zM ?_;refine Q4 (zi1 (hj:=hkn)) ?_;refine Q4 (zG hc) ?_;refine Q4 zea ?_;refine Qg ?_;exact h0'.o):p:=h ⟨hq⟩
theorem Qlk(h:Hq q->p:=by intro h0';(repeat(first|refine Q4 Kd ?_|refine Qg ?_|refine Q6 ?_|refine Q4 QgU ?_));exact h0'.o):p:=h ⟨hq⟩
theorem QmJ(h:Hq q->p:=by intro h0';rw[hl2,hb2];refine Qc 13 rfl Q5 Zd mc5 ?_;refine Qc 14 rfl Q5 Zd zF ?_;exact h0'.o):p:=h ⟨hq⟩
theorem QlQ(h:Hq q->p:=by intro h0';rw[hl1,hb1];refine Qc 11 rfl Q5 Ve mc5 ?_;refine Qc 12 rfl Q5 Ve zF ?_;exact h0'.o):p:=h ⟨hq⟩
theorem Qo0(h:Hq q->p:=by intro h0';refine yq<|yq<|yr<|yo zM<|yo zF<|yo (zB 0)<|yo zL<|yo zlf<|yl<|yn<|y0<|ye<|yx<|yx<|yu ?_;exact h0'.o):p:=h ⟨hq⟩
theorem Qfy(h:Hq q->p:=by intro h0';refine yW 0 ?_;refine yl<|yn<|yq<|yr<|yo (zD 0) ?_;exact h0'.o):p:=h ⟨hq⟩
theorem QfI(h:Hq q->p:=by intro h0';refine Q97 0 (n:=2) (s:=1) rfl rfl Q1 ?_;exact h0'.o):p:=h ⟨hq⟩
theorem Q9K(h:Hq q->p:=by intro h0';refine yn<|yq<|yq<|yr<|yo zF<|yo (zB 0)<|yo zef<|yo zM<|yo zF<|yo (zB 0)<|yo zef<|yo zN<|yl<|yn<|y0<|ys<|yn<|yq<|yq<|yr<|yo zF<|yo (zB 0)<|yo zef<|yo zM<|yo zF<|yo (zB 0)<|yo zef<|yo zN<|yo zM<|yo zF<|yo (zB 0)<|yo zef<|yo zN<|yl<|yn<|y0<|ys<|yn<|yq<|yq<|yr<|yo zF<|yo (zB 0)<|yo zef<|yl<|yn<|y0<|ys<|yn<|yq<|yq<|yr<|yo zF<|yo (zB 1)<|yo zM<|yo zna<|yl<|yn<|y1<|yq<|yr<|yo zM<|yo zA<|yo zA<|yo zA<|yl<|yn<|yt<|yc ?_;exact h0'.o):p:=h ⟨hq⟩
theorem Qmd(h:Hq q->p:=by intro h0';refine yn<|yq<|yq<|yr<|yo zF<|yo (zB 0)<|yo zef<|yo zM<|yo zF<|yo (zB 0)<|yo zef<|yo zN<|yl<|yn<|y0<|ys<|yn<|yq<|yq<|yr<|yo zF<|yo (zB 0)<|yo zet<|yo zM<|yo zS<|yo zS<|yo zS<|yo zY<|yo zM<|yo zS<|yo zS<|yo zS<|yo zY<|yl<|yn<|y1<|yr<|yo zA<|yl<|yn<|yq<|yq<|yr<|yo zF<|yo (zB 0)<|yo zef<|yl<|yn<|y0<|ys<|yn<|yq<|yq<|yr<|yo zF<|yo (zB 1)<|yo zM<|yo znf<|yl<|yn<|y0<|ys<|yn<|yq<|yr<|yo zA<|yl<|yn<|yq<|yr<|yo zA<|yl<|yn<|yq<|yr<|yo zA<|yl<|yn<|yq<|yq<|yr<|yo zF<|yo (zB 0)<|yl<|yn<|yb<|yq<|yr<|yo zef<|yo zA<|yl<|yn<|y0<|yq<|yq<|yr<|yo zef<|yo zA<|yl<|yn<|y0<|yr<|yo zef<|yo zA<|yl<|yn<|y0<|yq<|yr<|yo zet<|yo zA<|yl<|yn<|y1<|yq<|yr<|yo zF<|yo (zB 1)<|yo zL<|yo zF<|yo (zB 0)<|yo zea<|yo zA<|yl<|yn<|yr<|yo zF<|yo (zB 1) ?_;exact h0'.o):p:=h ⟨hq⟩
theorem Qng(h:Hq q->p:=by intro h0';refine yn<|yq<|yq<|yr<|yo zF<|yo (zB 0)<|yo zef<|yo zM<|yo zF<|yo (zB 0)<|yo zef<|yo zN<|yl<|yn<|y0<|ys<|yn<|yq<|yq<|yr<|yo zF<|yo (zB 0)<|yo zef<|yo zM<|yo zF<|yo (zB 0)<|yo zef<|yo zN<|yo zM<|yo zF<|yo (zB 0)<|yo zef<|yo zN<|yl<|yn<|y0<|ys<|yn<|yq<|yq<|yr<|yo zF<|yo (zB 0)<|yo zef<|yl<|yn<|y0<|ys<|yn<|yq<|yq<|yr<|yo zF<|yo (zB 1)<|yo zM<|yo znf<|yl<|yn<|y0<|ys<|yn<|yq<|yr<|yo zA<|yl<|yn<|yq<|yr<|yo zA<|yl<|yn<|yq<|yr<|yo zA<|yl<|yn<|yq<|yq<|yr<|yo zF<|yo (zB 0)<|yl<|yn<|yb<|yq<|yr<|yo zet<|yo zA<|yl<|yn<|y1<|yq<|yr<|yo zF<|yo (zB 1)<|yo zL<|yo zea<|yo zA<|yl<|yn<|yr<|yo zF<|yo (zB 0) ?_;exact h0'.o):p:=h ⟨hq⟩
theorem YH(h:Hq q->p:=by intro h0';refine Q4 zM ?_;refine Q4 zP ?_;refine Zm ?_;exact h0'.o):p:=h ⟨hq⟩
theorem Qdz(h:Hq q->p:=by intro h0';refine yo zA<|yl<|yn<|yq<|yq<|yr<|yo zM<|yo zO<|yl<|yn<|y1<|yq<|yr<|yo zM<|yo zA<|yo zA<|yo zA<|yl<|yn<|yt<|yc ?_;exact h0'.o):p:=h ⟨hq⟩
theorem QnO(h:Hq q->p:=by intro h0';refine yq<|yq<|yr<|yo zM<|yo zF<|yo (zB 1)<|yo zL<|yo zlf<|yl<|yn<|y0<|ye<|yn<|yr<|yo zM<|yo zF<|yo (zB 2) ?_;refine Q4 (Ql (f:=42) rfl rfl Q1 rfl rfl (fun w hw=>(K9 (row_rd Kj Q1).1 ((HDN.out.below hw.k.below).more hw.k.size) Q3).mono (fun e w' h=>by rw[hb] at h;exact h))) ?_;exact h0'.o):p:=h ⟨hq⟩
theorem Qk1(h:Hq q->p:=by intro h0';refine yq<|yq<|yr<|yo zM<|yo zF<|yo (zB 1)<|yo zL<|yo zlt<|yl<|yn<|y1<|ys<|yn<|yq<|yb<|Xm Q5 Q5 ?_;refine Q60 ?_;refine Q51 ?_;refine Qe zM ?_;refine Qe Q4b ?_;refine Qe (zG hcell) ?_;refine Qe (Q4n rfl rfl Q1 rfl rfl rfl Tryz.underlying3 hcs) ?_;refine QaV ?_;exact h0'.o):p:=h ⟨hq⟩
theorem QlF(h:Hq q->p:=by intro h0';refine yn<|yq<|yq<|yr<|yo zM<|yo zO<|yl<|yn<|y1<|yq<|yr<|yo zM<|yo zA<|yo zA<|yo zA<|yl<|yn<|yt<|yc ?_;exact h0'.o):p:=h ⟨hq⟩
theorem Qnt(h:Hq q->p:=by intro h0';refine Qc 14 rfl Q5 Zf zM ?_;refine Qc 15 rfl Q5 Zf zX ?_;refine Qc 18 rfl Q5 Zf zA ?_;refine Qc 16 rfl Q5 Zf zX ?_;refine Qc 19 rfl Q5 Zf zA ?_;refine Qc 17 rfl Q5 Zf zX ?_;refine Qc 20 rfl Q5 Zf zA ?_;exact h0'.o):p:=h ⟨hq⟩
theorem Qkr(h:Hq q->p:=by intro h0';refine Qc 13 rfl Q5 Zd zM ?_;refine Qc 14 rfl Q5 Zd zX ?_;refine Qc 17 rfl Q5 Zd zA ?_;refine Qc 15 rfl Q5 Zd zX ?_;refine Qc 18 rfl Q5 Zd zA ?_;refine Qc 16 rfl Q5 Zd zX ?_;refine Qc 19 rfl Q5 Zd zA ?_;exact h0'.o):p:=h ⟨hq⟩
theorem Q6t(h:Hq q->p:=by intro h0';refine Q4 zM ?_;refine Q4 zF ?_;refine Q4 (zB 3) ?_;refine Q4 zL ?_;exact h0'.o):p:=h ⟨hq⟩
theorem Qam(h:Hq q->p:=by intro h0';refine yo zA<|yo zA<|yo zA<|yl<|yn<|yq<|yr<|yo zF<|yo (zB 1)<|yo zM ?_;refine Q4 (QG rfl rfl Q1 rfl rfl rfl hkn) ?_;refine Q4 (X4 rfl rfl Q1 rfl rfl (fun w hw=>hw.range_old hrg Qn) rfl) ?_;exact h0'.o):p:=h ⟨hq⟩
theorem QoD(h:Hq q->p:=by intro h0';refine yq<|yq<|yr<|yo zM<|yo zF<|yo (zB 1)<|yo zL<|yo zlt<|yl<|yn<|y1<|ys<|yn<|yq<|yb<|yq<|yr<|yo zF<|yo (zB 1)<|yo zM<|yo (zi1 (hj:=hjl))<|yo (zG hcs) ?_;refine Q4 (Q9W rfl rfl Q1 rfl rfl rfl hst) ?_;exact h0'.o):p:=h ⟨hq⟩
theorem QjO(h:Hq q->p:=by intro h0';refine Q4 zF ?_;refine Q4 (zB 1) ?_;refine Q4 zM ?_;refine Q4 Q4b ?_;refine Q4 (zG hcs) ?_;refine Q4 (Q4h rfl rfl Q1 rfl rfl rfl hst) ?_;refine Qg ?_;exact h0'.o):p:=h ⟨hq⟩
theorem Qey(h:Hq q->p:=by intro h0';refine Q4 zM ?_;refine Q4 zF ?_;refine Q4 (zB 1) ?_;refine Q4 zL ?_;exact h0'.o):p:=h ⟨hq⟩
theorem QkQ(h:Hq q->p:=by intro h0';refine KA ?_;refine Q4 zef ?_;refine Qg ?_;refine Qb ?_;refine Q8 rfl ?_;refine Qp ?_;refine Qb ?_;exact h0'.o):p:=h ⟨hq⟩
theorem Q9G(h:Hq q->p:=by intro h0';refine yW 0 ?_;refine yl<|yn<|yq<|yr<|yo zA<|yl ?_;exact h0'.o):p:=h ⟨hq⟩
theorem Qoc(h:Hq q->p:=by intro h0';refine Q4 (Ql rfl rfl Q1 rfl rfl (fun w hw=>Qna _ _ w)) ?_;refine Qc2 ?_;refine yl<|yn<|yt<|yc ?_;exact h0'.o):p:=h ⟨hq⟩
theorem QoM(h:Hq q->p:=by intro h0';refine yl<|yn<|yr<|yo zM ?_;refine Q4 (QfD hnx Q3 Q1 rfl rfl Q1 rfl rfl rfl) ?_;refine Kk ?_;exact h0'.o):p:=h ⟨hq⟩
theorem QnW(h:Hq q->p:=by intro h0';refine Qe zM ?_;refine mc9 ?_;refine mc9 ?_;refine Qe zN ?_;refine Q05 ?_;refine QlF ?_;exact h0'.o):p:=h ⟨hq⟩
theorem QjB(h:Hq q->p:=by intro h0';refine Q4 Qqy ?_;refine yo zM<|yo zM<|yo zL<|yo zer<|yo zY<|yo zA<|yl<|yn<|yt<|yc ?_;exact h0'.o):p:=h ⟨hq⟩
end
end
end Go.Proofs.YtphkhfdmlcnoeaaGreatDoor
