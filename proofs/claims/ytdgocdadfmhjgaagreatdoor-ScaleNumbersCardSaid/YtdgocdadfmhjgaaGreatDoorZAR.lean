/- Parts of the proof of ScaleNumbers (CheckBench, Exponent and Largest answer as the reference does), at every input, with no further conditions. -/
import Derived.Test.YtdgocdadfmhjgaaGreatDoorZAQ
set_option linter.unusedVariables false
set_option linter.unusedSimpArgs false
namespace Go.Ai.Pg
open Go.Proofs Go.Ai Go.Ai.b6
set_option maxRecDepth 100000
def ZF(x:List It×aP)(rs:List ResultVar):Option SV:=match x.1 with
 |[]=>match gQ tt x.2 rs with
  |some xs=>some (x6 xs)
  |none=>none
 |_::_=>none
theorem PE{N:Nat}{R:Option Nat->Prop}{k:List It}{l:aP}{T:nL}(hT:∀g xs r,T g xs=some r->aO Tryz.prog g xs r){B:List Nat}{rs:List ResultVar}{r:SV}(h:ZF (exec Tryz.prog tt T B 100000 N k l) rs=some r):AK R Tryz.prog N (Ti Tryz.prog rs r) k l:=by
 refine oA (B:=B) hA hm hW hT 100000 N R _ k l ?_;unfold ZF at h;generalize exec Tryz.prog tt T B 100000 N k l=x at h;obtain⟨k',l'⟩:=x;simp only at h;cases k' with
 |cons i k'=>simp at h
 |nil=>
  simp only at h;split at h
  ·rename_i xs hx;simp only[Option.some.injEq]at h;exact aF hx (au.of_eq h)
  simp at h
def xS:SV:=.agg [.ints .i64 false [9,6],.row false 1 [.ints .i64 false [2,7]]]
def xU(c:SV):SV:=.agg [.s di,.row false 2 [.agg [.i 1,.s [49]],.agg [.i 0,.s [49]]],.i 1,.s [49],c]
def xPc(c:SV):SV:=.agg [.i 2,.row false 5 [xU c],.ints .i64 false [1]]
def xQ:SV:=xPc (.strs false [])
def xN:SV:=xPc .nil
theorem Cz:aO Tryz.prog 87 [xQ,xS] (.fn (.func 170) [] [.box false xQ,.box false xS]):=by
 refine enter (fn:=Tryz.f87) Tryz.func87 rfl rfl rfl rfl ?_;refine cg 1 [(2,.box true xQ),(3,.box true xS)] True ?_ fun _=>?_
 ·refine r0 rfl ?_;exact aQ trivial ⟨⟨rfl,rfl⟩,⟨rfl,rfl⟩,trivial⟩
 refine nV (r:=2) (p:=[]) rfl rfl trivial ?_;refine nV (r:=3) (p:=[]) rfl rfl trivial ?_;refine r0 rfl ?_;exact aF rfl (au.refl _)
def xV:Nat->SV
 |0=>.agg [.i 0,.i 0,.i 2,.i 6]
 |_=>.agg [.i 0,.i 1,.i 7,.i 9]
theorem xI(C:Value->Prop)(J:Nat->o7)(hy:∀v,C v->∀k,k<2->Yields Tryz.prog (J k) (J (k+1)) (an [xV k]) true v):
 jH Tryz.prog 170 [.abs (J 0)] [.pv C,.box false xQ,.box false xS] [.abs (J 2)] (.bC []):=by
 refine vo (fn:=Tryz.f170) Tryz.func170 rfl rfl rfl rfl rfl ?_;refine r0 rfl ?_;refine fw ?_;refine r0 rfl ?_;refine br rfl rfl rfl (fun _=>?_) (fun g=>absurd (by decide) g);refine r1 rfl (aI rfl) ?_;refine fw ?_;refine r0 rfl ?_;refine br rfl rfl rfl (fun _=>?_) (fun g=>absurd (by decide) g);refine r1 rfl (aI rfl) ?_;refine M5 rfl rfl trivial (fun v hv=>hy v hv 0 (by decide)) rfl ?_;refine k0 rfl (by kernel_rfl) ?_;refine o5 rfl rfl rfl (fun g=>absurd g (by decide)) (fun _=>?_);refine r1 rfl (aI rfl) ?_;refine fw ?_;refine r0 rfl ?_;refine br rfl rfl rfl (fun _=>?_) (fun g=>absurd (by decide) g);refine r1 rfl (aI rfl) ?_;refine M5 rfl rfl trivial (fun v hv=>hy v hv 1 (by decide)) rfl ?_;refine k0 rfl (by kernel_rfl) ?_;refine o5 rfl rfl rfl (fun g=>absurd g (by decide)) (fun _=>?_);refine r1 rfl (aI rfl) ?_;refine fw ?_;refine r0 rfl ?_;refine br rfl rfl rfl (fun g=>absurd g (by decide)) (fun _=>?_);refine r1 rfl (aI rfl) ?_;refine fw ?_;refine r0 rfl ?_;refine br rfl rfl rfl (fun g=>absurd g (by decide)) (fun _=>?_);refine r0 rfl ?_;exact Tr [(1000000,.abs (J 2))] ⟨rfl,trivial⟩ rfl trivial ⟨⟨rfl,rfl⟩,trivial⟩
end Go.Ai.Pg
namespace Go.Ai.Pg
open Go.Proofs Go.Ai Go.Ai.b6
set_option maxRecDepth 100000
set_option maxHeartbeats 0
def fq(n d:Int):SV:=.agg [.i n,.nil,.i d,.nil]
theorem Tx:aO Tryz.prog 81 [ur,.i (-4)] (fq 1 16):=fZ fA (B:=[]) (by kernel_rfl)
theorem Tz:aO Tryz.prog 81 [ur,.i (-2)] (fq 1 4):=fZ fA (B:=[]) (by kernel_rfl)
theorem Po:aO Tryz.prog 56 [.s [49]] (fq 1 1):=fZ fA (B:=[]) (by kernel_rfl)
theorem U8:aO Tryz.prog 88 [fq 1 16,fq 1 1] (fq 1 16):=fZ fA (B:=[]) (by kernel_rfl)
theorem X8:aO Tryz.prog 88 [fq 1 4,fq 1 1] (fq 1 4):=fZ fA (B:=[]) (by kernel_rfl)
end Go.Ai.Pg
namespace Go.Ai.Pg
open Go.Proofs Go.Ai Go.Ai.b6
set_option maxRecDepth 100000
def gY:Nat->SV
 |0=>.row true 1 [.nil]
 |1=>.row true 1 [.row true 4 [fq 1 16]]
 |_=>.row true 1 [.row true 4 [fq 1 16,fq 1 4]]
theorem Sq:aO Tryz.prog 78 [xQ,xS] (.row false 1 [.row false 4 [fq 1 16,fq 1 4]]):=by
 refine enter (fn:=Tryz.f78) Tryz.func78 rfl rfl rfl rfl ?_;refine r0 rfl ?_;refine cl rfl rfl CC rfl ?_;refine r1 rfl (aI rfl) ?_;refine cl rfl rfl Cz rfl ?_;refine r0 rfl ?_;refine yc [2,5,6] [2,5,6] 2 2 (fun k=>[xV k]) (fun k=>[.box true xQ,.box true ur,.box true (gY k)]) (fun _=>true) (fun _=>none) (.bC [])
  rfl rfl rfl rfl rfl Tryz.func170 rfl rfl rfl rfl rfl rfl (fun _ _=>rfl) (fun _=>rfl) ?_ rfl rfl (fun k _ h=>rfl) (fun C J hy=>xI C J fun v hv k hk=>hy v hv k hk fun _ _=>rfl) ?_ ?_ ?_
 ·intro k hk z hz;simp only[List.mem_cons,List.not_mem_nil,or_false]at hz;rcases hz with rfl|rfl|rfl
  ·rfl
  ·rfl
  match k,hk with
  |0,_=>rfl
  |1,_=>rfl
 ·intro k hk _
  match k,hk with
  |0,_=>refine r0 rfl ?_;refine pg ?_;refine r1 rfl (aI rfl) ?_;refine cd rfl rfl Tx rfl ?_;refine r1 rfl (aI rfl) ?_;refine cd rfl rfl Po rfl ?_;refine r0 rfl ?_;refine cd rfl rfl U8 rfl ?_;refine k1 rfl (by kernel_rfl) (aI rfl) ?_;exact wm [(1000000,.box true xQ),(1000001,.box true ur),(1000002,.box true (gY 1))] rfl rfl ⟨⟨rfl,rfl,.refl _⟩,⟨rfl,rfl,.refl _⟩,⟨rfl,rfl,.refl _⟩,trivial⟩ ⟨⟨rfl,rfl⟩,⟨rfl,rfl⟩,⟨rfl,rfl⟩,trivial⟩
  |1,_=>refine r0 rfl ?_;refine pg ?_;refine r1 rfl (aI rfl) ?_;refine cd rfl rfl Tz rfl ?_;refine r1 rfl (aI rfl) ?_;refine cd rfl rfl Po rfl ?_;refine r0 rfl ?_;refine cd rfl rfl X8 rfl ?_;refine k1 rfl (by kernel_rfl) (aI rfl) ?_;exact wm [(1000000,.box true xQ),(1000001,.box true ur),(1000002,.box true (gY 2))] rfl rfl ⟨⟨rfl,rfl,.refl _⟩,⟨rfl,rfl,.refl _⟩,⟨rfl,rfl,.refl _⟩,trivial⟩ ⟨⟨rfl,rfl⟩,⟨rfl,rfl⟩,⟨rfl,rfl⟩,trivial⟩
 ·intro _;refine r0 rfl ?_;exact aF rfl (au.refl _)
 intro c hp;simp at hp
end Go.Ai.Pg
namespace Go.Ai.Pg
open Go.Proofs Go.Ai Go.Ai.b6
set_option maxRecDepth 100000
set_option maxHeartbeats 0
def cq2:SV:=.row false 3 (ZO.map xh)
theorem tF:aO Tryz.prog 41 [.box false (Jl qQ false)] (.bC [cq2,.i 2]):=by have h:=tG qQ WM rfl rfl;rw[SP]at h;exact h.shr.same rfl rfl
theorem Lc:aO Tryz.prog 17 [xQ,xR,eK qQ,.ints .i64 false [7,6]] (.i 0):=by refine enter (fn:=Tryz.f17) Tryz.func17 rfl rfl rfl rfl ?_;refine r0 rfl ?_;refine cl rfl rfl ((NZ qQ WM rfl rfl).same rfl rfl) rfl ?_;refine r0 rfl ?_;refine br rfl rfl rfl (fun g=>absurd rfl g) (fun _=>?_);refine r0 rfl ?_;refine cl rfl rfl (tF.same rfl rfl) rfl ?_;refine W5 7 rfl trivial ?_;refine nV (r:=11) (p:=[]) rfl rfl trivial ?_;exact PE fA (B:=[]) (by kernel_rfl)
theorem Jx:aO Tryz.prog 84 [xQ,xS] (.i 0):=fZ fA (B:=[]) (by kernel_rfl)
theorem wP:aO Tryz.prog 85 [xQ,xS,eK nA] (.b false):=fZ fA (B:=[]) (by kernel_rfl)
theorem U0:aO Tryz.prog 54 [.i (-4),.i (-4),.i 4] (.b false):=(uF _ _ _).same rfl rfl
theorem U1:aO Tryz.prog 54 [.i (-2),.i (-4),.i 4] (.b false):=(uF _ _ _).same rfl rfl
theorem SW:aO Tryz.prog 53 [.box false (Jl nA false),xS] (.i 0):=by
 refine enter (fn:=Tryz.f53) Tryz.func53 rfl rfl rfl rfl ?_;refine r0 rfl ?_;refine cd rfl rfl (Jx.same rfl rfl) rfl ?_;refine k0 rfl (by kernel_rfl) ?_;refine br rfl rfl rfl (fun g=>absurd rfl g) (fun _=>?_);refine r0 rfl ?_;refine fw ?_;refine r0 rfl ?_;refine br rfl rfl rfl (fun _=>?_) (fun g=>absurd (by decide) g);refine r1 rfl (aI rfl) ?_;refine br rfl rfl rfl (fun g=>absurd g (by decide)) (fun _=>?_);refine r1 rfl (aI rfl) ?_;refine fw ?_;refine r0 rfl ?_;refine br rfl rfl rfl (fun _=>?_) (fun g=>absurd (by decide) g);refine r1 rfl (aI rfl) ?_;refine br rfl rfl rfl (fun g=>absurd g (by decide)) (fun _=>?_);refine r1 rfl (aI rfl) ?_;refine fw ?_;refine r0 rfl ?_;refine br rfl rfl rfl (fun g=>absurd g (by decide)) (fun _=>?_);refine r0 rfl ?_;refine cd rfl rfl (Cz.same rfl rfl) rfl ?_;refine k0 rfl (by kernel_rfl) ?_;refine yc [2,8] [2,8] 2 2 (fun k=>[xV k]) (fun _=>[.box true (.box false (Jl nA false)),.box true (.b false)]) (fun _=>true) (fun _=>none) (.bC [])
  rfl rfl rfl rfl rfl Tryz.func170 rfl rfl rfl rfl rfl rfl (fun _ _=>rfl) (fun _=>rfl) ?_ rfl rfl (fun k _ h=>rfl) (fun C J hy=>xI C J fun v hv k hk=>hy v hv k hk fun _ _=>rfl) ?_ ?_ ?_
 ·intro k hk z hz;simp only[List.mem_cons,List.not_mem_nil,or_false]at hz;rcases hz with rfl|rfl<;>rfl
 ·intro k hk _
  match k,hk with
  |0,_=>refine r0 rfl ?_;refine pg ?_;refine k1 rfl (by kernel_rfl) (aI rfl) ?_;refine br rfl rfl rfl (fun g=>absurd g (by decide)) (fun _=>?_);refine r1 rfl (aI rfl) ?_;refine cd rfl rfl U0 rfl ?_;refine k1 rfl (by kernel_rfl) (aI rfl) ?_;exact wm [(1000000,.box true (.box false (Jl nA false))),(1000001,.box true (.b false))] rfl rfl ⟨⟨rfl,rfl,.refl _⟩,⟨rfl,rfl,.refl _⟩,trivial⟩ ⟨⟨rfl,rfl⟩,⟨rfl,rfl⟩,trivial⟩
  |1,_=>refine r0 rfl ?_;refine pg ?_;refine k1 rfl (by kernel_rfl) (aI rfl) ?_;refine br rfl rfl rfl (fun g=>absurd g (by decide)) (fun _=>?_);refine r1 rfl (aI rfl) ?_;refine cd rfl rfl U1 rfl ?_;refine k1 rfl (by kernel_rfl) (aI rfl) ?_;exact wm [(1000000,.box true (.box false (Jl nA false))),(1000001,.box true (.b false))] rfl rfl ⟨⟨rfl,rfl,.refl _⟩,⟨rfl,rfl,.refl _⟩,trivial⟩ ⟨⟨rfl,rfl⟩,⟨rfl,rfl⟩,trivial⟩
 ·intro _;refine r0 rfl ?_;refine cd rfl rfl (wP.same rfl rfl) rfl ?_;exact PE fA (B:=[]) (by kernel_rfl)
 intro c hp;simp at hp
end Go.Ai.Pg
namespace Go.Ai
open Go.RowKit
theorem Mz{P:Program}{w:World}{f:FuncId}{fn:Func}{vs:Array Value}{R:Value->World->Prop}(hf:P.funcs[f]?=some fn)(hb:fn.body.isNone=false)(hn:(fn.name== "runtime.NumGoroutine")=false)
 (h:qg P f vs w R):Calls P f vs w fun e w'=>∃v,e=.returned v/\R v w':=by
 have bp:(callFunc f vs).run P w=.ok (.enter f vs) w:=by
  have YI:¬fn.name= "runtime.NumGoroutine":=by simpa using hn
  have dr:¬fn.body=none:=by intro h;rw[h]at hb;simp at hb
  unfold callFunc;simp[hf,dr,YI]
 have h1:=h none {dst:=some 0,op:=.move (.const (.bool true)),type:=0,pos:= "",after:=#[],guard:=none} {tmps:=#[undef],defers:=[]} (fun a' w'=>∃v,a'.tmps=#[v]/\R v w') (fun _ _ _=>False) (fun v w' hr=>⟨v,by simp[Act.put],hr⟩);rw[bp,Oper.uponIn_enter]at h1;have h2:=callsIn_wide.1 h1.2;refine h2.mono fun e w' he=>?_;cases e with
 |returned v=>
  obtain⟨v',e1,hr⟩:=he;have e2:v=v':=by simpa[Act.put]using e1
  subst e2;exact⟨v,rfl,hr⟩
 |panicked chain=>exact he.elim
 |outgrown=>exact absurd he (by simp[LetsOut])
theorem aO.calls{P:Program}{w:World}{f:FuncId}{fn:Func}{args:List SV}{r:SV}{vs:List Value}(h:aO P f args r)(hf:P.funcs[f]?=some fn)(hb:fn.body.isNone=false)(hn:(fn.name== "runtime.NumGoroutine")=false)
 (hG:Laid P w)(hc:Cells w (fun _=>False) false (an args) vs []):Calls P f vs.toArray w fun e w'=>∃v,e=.returned v/\Below w.heap.size w w'/\∃S' F,Rel w' S' r.den v F:=by
 refine(Mz hf hb hn (h w (fun _=>False) vs hG (fun _ h=>h.elim) hc)).mono fun e w'⟨v,h1,S',F,h2,_,_,_,h3,_⟩=>⟨v,h1,h2,S',F,h3⟩
theorem aO.su{P:Program}{f:FuncId}{xs ys:List SV}{r:SV}(h:aO P f ys r)(hl:ss xs ys):aO P f xs r:=by intro w S vs hG hS hc;obtain⟨F1,F2,hp,hq⟩:=hl.cells hc;have e:=List.nil_perm.1 hp;have e1:F1=[]:=(List.append_eq_nil_iff.1 e).1;have e2:F2=[]:=(List.append_eq_nil_iff.1 e).2;subst e1;subst e2;exact h w S vs hG hS (hq S (fun _ h=>h) (fun b hb=>by simp at hb))
end Go.Ai
namespace Go.Ai.Pg
open Go.Proofs Go.Ai Go.Ai.b6
set_option maxRecDepth 100000
set_option maxHeartbeats 0
theorem C9:Az xN (fo dP):=
 .agg (.cons (.refl _) (.cons (.row (d:=default) (e:=gN) (ys:=[fc]) (.cons (.agg (.cons (.refl _) (.cons (.row (d:=default) (e:=vp) (ys:=fc.aC) (.cons (.refl _) (.cons (.refl _) .nil))) (.cons (.refl _) (.cons (.refl _) (.cons (.le rfl) .nil)))))) .nil)) (.cons (.refl _) .nil)))
def cq1:SV:=.row false 3 (WB.map xh)
theorem DV:aO Tryz.prog 41 [.box false (Jl nA false)] (.bC [cq1,.i 2]):=by have h:=tG nA S6 rfl rfl;rw[Kr]at h;exact h.shr.same rfl rfl
theorem NW:aO Tryz.prog 83 [xN] (.i 0):=by have h:=wQ dP lK;rw[wj]at h;exact h.su (.cons C9 .nil)
theorem N0(b:ia)(hb:MO b)(hd:b.d=5)(hs:b.s=10):aO Tryz.prog 40 [xN,xR,eK b] (.bC [.box true (Jl b true),.i 0]):=(NZ b hb hd hs).su (.cons C9 (.cons (.refl _) (.cons (.refl _) .nil)))
theorem FC:aO Tryz.prog 10 [xN,xR,eK nA] (.bC [.ints .i64 false [9,7],.row false 1 [.ints .i64 false [2,9]],.i 0]):=(Ok.su (.cons C9 (.cons (.refl _) (.cons (.refl _) .nil)))).same rfl rfl
theorem Kq:aO Tryz.prog 11 [xN,xR,eK nA] (.bC [cq1,.i 0]):=((SN.su (.cons C9 (.cons (.refl _) (.cons (.refl _) .nil)))).shr).same rfl rfl
theorem Sr:aO Tryz.prog 78 [xN,xS] (.row false 1 [.row false 4 [fq 1 16,fq 1 4]]):=(Sq.same (bs:=[fo dP,xS]) rfl rfl).su (.cons C9 (.cons (.refl _) .nil))
theorem Ld:aO Tryz.prog 17 [xN,xR,eK qQ,.ints .i64 false [7,6]] (.i 0):=(Lc.same (bs:=[fo dP,xR,eK qQ,.ints .i64 false [7,6]]) rfl rfl).su (.cons C9 (.cons (.refl _) (.cons (.refl _) (.cons (.refl _) .nil))))
def oW(f:FuncId)(xs:List SV)(r:SV):vN:=(f,xs,r)
def L1:List vN:=[oW 80 [] ur,oW 83 [xN] (.i 0),oW 40 [xN,xR,eK nA] (.bC [.box true (Jl nA true),.i 0]),oW 40 [xN,xR,eK qQ] (.bC [.box true (Jl qQ true),.i 0]),oW 41 [.box false (Jl nA false)] (.bC [cq1,.i 2]),oW 41 [.box false (Jl qQ false)] (.bC [cq2,.i 2]),
 oW 53 [.box false (Jl nA false),xS] (.i 0),oW 78 [xN,xS] (.row false 1 [.row false 4 [fq 1 16,fq 1 4]])]
def T1:nL:=orK (yG L1) T0
theorem Z4:Tl Tryz.prog L1:=⟨CC,NW,N0 nA S6 rfl rfl,N0 qQ WM rfl rfl,DV,tF,SW,Sr,trivial⟩
theorem Cw:∀g xs r,T1 g xs=some r->aO Tryz.prog g xs r:=Lo (fun _ _ _ h=>mB Z4 h) fA
end Go.Ai.Pg
section
namespace Go.Ai
open Go.RowKit
variable{P:Program}{w:World}{S:Nat->Prop}
theorem Cs{args H:List AV}(h1:args.length=1)(h2:H.length=1){i:Nat}(a:i≠0)(b:i≠1000000):both args H i=⟨.dead,0,0⟩:=by
 by_cases h:i<1000000
 ·rw[gu h,List.getElem?_eq_none (by omega)]
 obtain⟨k,rfl⟩:∃k,i=1000000+k:=⟨i-1000000,by omega⟩;rw[fW (by omega),List.getElem?_eq_none (by omega)]
theorem LJ{o:Oper}{t:TypeId}{a:Operand}{y:AV}{ti:TI}(ho:o.op=.load t a)(ga:bE P t=some ti)(lV:fits ti y=true):
 Qr P o [.box true y] [.bg 1000000 0 0 []] [.box true (fR y)] y:=by
 intro w S V vs F hl hc ρ hρ;obtain⟨x0,rfl⟩:∃x0,vs=[x0]:=by
  match vs,hl with
  |[x0],_=>exact⟨x0,rfl⟩
 have cU:=fW (args:=[.bg 1000000 0 0 []]) (H:=[.box true y]) (by simp) 0;simp only[Nat.add_zero,List.getElem?_cons_zero]at cU;have e0:x0=V.v 1000000:=uj (i:=0) (by omega) hc rfl;have hT:aS V [x0] 1000000=V.v 1000000:=by unfold aS;rw[if_neg (by omega)]
 obtain⟨L,z,F1,F',k1,k2,k3,bT,hF0,hFo⟩:=hc.take 1000000 0 [.deref] (y:=y) (av':=.box true (fR y)) (by omega) (by rw[cU];rfl) (by rw[cU];rfl) (by rw[cU];rfl);have hr:=hc.rel 1000000;rw[ai.ar (by rw[cU];rfl),cU,hT]at hr;simp only[Rel]at hr;obtain⟨b,cs,fz,F2,z2,h1,-⟩:=hr;rw[hT,h1]at k1;simp[loc,step1,bH]at k1;subst k1;have ha:ρ a=.pointer (some ⟨b,0,none⟩):=by
  have h2:o.op.operands.toList=[a]:=by rw[ho];rfl
  rw[h2]at hρ;simp only[List.map_cons,List.map_nil,List.cons.injEq,and_true]at hρ;rw[hρ,e0,h1]
 have bp:(Instr.loadAt t (ρ a)).run P w=.ok z w:=by simp only[Instr.loadAt,Instr.sureAddr,ha,Sem.run_bind,Sem.run_pure,Result.andThen_ok];exact lB ga k2 (j9 lV k3)
 have LZ:aS V [z] 0=z:=by unfold aS;rw[if_pos (by omega)];rfl
 have Vw:aS V [z] 1000000=V.v 1000000:=by unfold aS;rw[if_neg (by omega)]
 have tg:both [y] [.box true (fR y)] 0=⟨y,0,0⟩:=by rw[gu (by omega)];rfl
 have Ds:=fW (args:=[y]) (H:=[.box true (fR y)]) (by simp) 0;simp only[Nat.add_zero,List.getElem?_cons_zero]at Ds;refine⟨.value z,z,w,by simp[execOp,ho,bp],.inl rfl,S,F',⟨rfl,rfl,rfl,Nat.le_refl _,fun _ _ _=>rfl⟩,fun _ h=>h,fun _ h=>.inl h,?_⟩;refine⟨fun i=>?_,bT.nodup,bT.cx,fun i b hb=>?_,bT.shr⟩
 ·by_cases e:i=0
  ·subst e;have:=bT.rel 0;rw[ai.ar (by rw[ak];exact k3.plain)]at this;rw[ai.ar (by rw[tg];exact k3.plain),tg,LZ];simpa[ak]using this
  by_cases e2:i=1000000
  ·subst e2;have:=bT.rel 1000000;have cR:(1000000:Nat)≠0:=by omega
   have bQ:(fB (fB (both [.bg 1000000 0 0 []] [.box true y]) 1000000 (gR (both [.bg 1000000 0 0 []] [.box true y] 1000000) [.deref] (.box true (fR y)))) 0 ⟨y,((both [.bg 1000000 0 0 []] [.box true y]) 0).g1+1,((both [.bg 1000000 0 0 []] [.box true y]) 0).g2⟩ 1000000).av=.box true (fR y):=by rw[ab _ _ cR,ak,um]
   rw[ai.ar (by rw[bQ];rfl),bQ,ab _ _ cR,hT]at this;rw[ai.ar (by rw[Ds];rfl),Ds,Vw];exact this
  have:=bT.rel i;have hd:=Cs (args:=[.bg 1000000 0 0 []]) (H:=[.box true y]) rfl rfl e e2;have Za:=Cs (args:=[y]) (H:=[.box true (fR y)]) rfl rfl e e2;rw[ai.ar (by rw[ab _ _ e,ab _ _ e2,hd];rfl),ab _ _ e,ab _ _ e2,hd]at this;rw[ai.ar (by rw[Za];rfl),Za];simp only[Rel]at this⊢;exact this
 obtain⟨q1,q2,q3⟩:=bT.own i b hb;exact⟨.inr q1,q2,q3⟩
theorem Yb{o:Oper}{t:TypeId}{a:Operand}{y:SV}{ti:ua}(ho:o.op=.load t a)(ga:bE P t=some ti.den)(lV:kb ti y=true)(hc:y.den.cell=false):kO P o [.box true y] [.bg 1000000 0 0 []] [.box true .dead] y:=by
 have h:=LJ (P:=P) (y:=y.den) ho ga (by rw[gF];exact lV);have e:fR y.den=.dead:=by unfold fR;rw[hc];rfl
 rw[e]at h;exact h
end Go.Ai
end
namespace Go.Ai.Pg
open Go.Proofs Go.Ai Go.Ai.b6
set_option maxRecDepth 100000
set_option maxHeartbeats 0
theorem kno{R:Option Nat->Prop}{N:Nat}{F:St->Prop}{k:List It}{l:aP}{k':List It}{l':aP}(m:Nat){ob:List Pd}{qs:List Bool}(h:run tt [] N m k l [] []=(ob,qs,k',l'))(hq:Go.Ai.kv qs=true)(ho:ae ob)(hk:AK R Tryz.prog N F k' l'):AK R Tryz.prog N F k l:=(kQ hA hm h ho hq).2.2 hk
def fdR(o:Bool):SV:=.row o 2 [.agg [.i 1,.s [49]],.agg [.i 0,.s [49]]]
theorem SS:aO Tryz.prog 51 [.ints .i64 false [1]] (.ints .i64 true [1]):=fZ fA (B:=[]) (by kernel_rfl)
theorem SU:aO Tryz.prog 168 [fdR false] (fdR true):=fZ fA (B:=[]) (by kernel_rfl)
theorem SQ:aO Tryz.prog 169 [.nil] .nil:=fZ fA (B:=[]) (by kernel_rfl)
def XU(a b st:bw):SV:=.agg [.i 2,.row true 5 [.agg [.s di,.row true 2 [.agg [.i 1,.s a],.agg [.i 0,.s b]],.i 1,.s st,.nil]],.ints .i64 true [1],.i 0]
def xU1:SV:=.agg [.s di,.row true 2 [.agg [.i 1,.s [49]],.agg [.i 0,.s [49]]],.i 1,.s [49],.nil]
def tiU:ua:=match CB tt 49 with|some t=>t|none=>⟨false,0,0,.dead⟩
theorem PM:aO Tryz.prog 86 [xN] (.box true (XU [49] [49] [49])):=by refine enter (fn:=Tryz.f86) Tryz.func86 rfl rfl rfl rfl ?_;refine r0 rfl ?_;refine cd rfl rfl SS rfl ?_;refine k0 rfl (by kernel_rfl) ?_;refine fw ?_;refine r0 rfl ?_;refine br rfl rfl rfl (fun _=>?_) (fun g=>absurd (by decide) g);refine r1 rfl (aI rfl) ?_;refine cd rfl rfl SU rfl ?_;refine r0 rfl ?_;refine cd rfl rfl SQ rfl ?_;refine kno 12 rfl (by kernel_rfl) trivial ?_;refine exd rfl rfl rfl (kO.same (Yb (P:=Tryz.prog) (y:=xU1) (ti:=tiU) rfl rfl rfl rfl) rfl rfl rfl rfl) rfl ?_;exact PE fA (B:=[]) (by kernel_rfl)
end Go.Ai.Pg
namespace Go.Ai
open Go.RowKit
section
variable{R:Option Nat->Prop}{P:Program}{N:Nat}{V:Hid}{w0 w:World}{S0:Nat->Prop}{a:Act}{base:St}{r p0 Z h:Nat}{Q s:Path}
def Qu(base:St)(r p0:Nat)(av:AV)(q:Path):St:=fB (fB base r ⟨av,0,0⟩) p0 ⟨.ptr r 0 0 q,0,0⟩
def sH(base:St)(r p0 Z h:Nat)(av y:AV)(s:Path):St:=fB (fB (fB (fB base r ⟨av,0,0⟩) p0 ⟨.ptr Z 0 0 s,0,0⟩) Z ⟨y,0,0⟩) h ⟨.bg Z 0 0 [],0,0⟩
def Hid.xH(V:Hid)(Z h:Nat)(v:Value):Hid:={V with v:=fB (fB V.v Z v) h v}
structure Names(N r p0 Z h:Nat):Prop where
 n:N<=1000000
 z:1000000<=Z
 hh:1000000<=h
 rp:r≠p0
 rz:r≠Z
 rh:r≠h
 pz:p0≠Z
 ph:p0≠h
 zh:Z≠h
theorem Er(hn:Names N r p0 Z h)(ha:a.tmps.size=N)(v:Value):tv (V.xH Z h v) a=fB (fB (tv V a) Z v) h v:=by
 have h1:=hn.n;have h2:=hn.z;have h3:=hn.hh
 funext i
 unfold tv Hid.xH fB;simp only;by_cases e:i=h
 ·subst e;rw[if_neg (by omega),if_pos rfl,if_pos rfl]
 by_cases e2:i=Z
 ·subst e2;rw[if_neg (by omega)];simp[e]
 simp only[e,e2,if_false]
theorem Nx{av y:AV}:sH base r p0 Z h av y s h=⟨.bg Z 0 0 [],0,0⟩:=by unfold sH;rw[ak]
theorem rI(hn:Names N r p0 Z h){av y:AV}:sH base r p0 Z h av y s Z=⟨y,0,0⟩:=by unfold sH;rw[ab _ _ hn.zh,ak]
theorem Nw(hn:Names N r p0 Z h){av y:AV}:sH base r p0 Z h av y s p0=⟨.ptr Z 0 0 s,0,0⟩:=by unfold sH;rw[ab _ _ hn.ph,ab _ _ hn.pz,ak]
theorem CK(hn:Names N r p0 Z h){av y:AV}:sH base r p0 Z h av y s r=⟨av,0,0⟩:=by unfold sH;rw[ab _ _ hn.rh,ab _ _ hn.rz,ab _ _ hn.rp,ak]
theorem CL{av y:AV}{i:Nat}(h1:i≠r)(h2:i≠p0)(h3:i≠Z)(h4:i≠h):sH base r p0 Z h av y s i=base i:=by unfold sH;rw[ab _ _ h4,ab _ _ h3,ab _ _ h2,ab _ _ h1]
theorem Tp{av:AV}:Qu base r p0 av Q p0=⟨.ptr r 0 0 Q,0,0⟩:=by unfold Qu;rw[ak]
theorem Bz(h1:r≠p0){av:AV}:Qu base r p0 av Q r=⟨av,0,0⟩:=by unfold Qu;rw[ab _ _ h1,ak]
theorem v8{av:AV}{i:Nat}(h1:i≠r)(h2:i≠p0):Qu base r p0 av Q i=base i:=by unfold Qu;rw[ab _ _ h2,ab _ _ h1]
theorem FA{v:Value}{L:Loc}{x:Loc}{i sz:Nat}{s':Path}(hl:loc w x Q=some L)(hh:holds w L v)(hc:v.cells=#[v]):loc w x (Q++.idx i sz::s')=loc w (.val v) (.idx i sz::s'):=by rw[fP,hl];simp only[Option.bind_some,loc];rw[bO hh hc (by simp)];rfl
theorem OV{L:Loc}{z z':Value}(h1:holds w L z)(h2:holds w L z')(c1:z.cells=#[z])(c2:z'.cells=#[z']):z=z':=by
 cases L with
 |val q=>simp only[holds]at h1 h2;rw[h1,h2]
 |addr ad=>have e1:=At.cell h1 c1;have e2:=At.cell h2 c2;rw[e1]at e2;simpa using e2
theorem K9{sz i fe:Nat}{xs:List AV}{ZW:AV}{av1:(Value->Prop)->AV}{s':Path}(hn:Names N r p0 Z h)(hb:∀i,(base i).av.plain=true)(hbz:(base Z).av=.dead)(hbh:(base h).av=.dead)(hp:ZW.plain=true)
 (hg:a6 ZW Q=some (.list .own sz xs))(hs:∀C,c8 ZW Q (.pv C)=some (av1 C))(hex:∃u,a6 ZW (Q++.idx i fe::s')=some u)
 (hi:kM N V w0 S0 (Qu base r p0 ZW (Q++.idx i fe::s')) a w):∃v,kM N (V.xH Z h v) w0 S0 (sH base r p0 Z h (av1 (·=v)) (.list .own sz xs) (.idx i fe::s')) a w:=by
 obtain⟨S,F,ds,hc,hN,ig,jl,gw,cU,hm⟩:=hi;have hr:=hc.rel r;rw[ai.ar (by rw[Bz hn.rp];exact hp),Bz hn.rp]at hr;obtain⟨L0,v,Fv,l1,l2,l3,-⟩:=Rel.read Q (L:=.val (tv V a r)) hr rfl hg;have c1:v.cells=#[v]:=bS (l3.one rfl);obtain⟨L,z,A,F1,B,k1,k2,k3,k4,k5,k6⟩:=Rel.fB Q (L:=.val (tv V a r)) hr rfl hg (hs (·=v)) (hc.nodup r) (fun b hb=>(hc.own r b hb).2.2) (by simp[Loc.iu]);rw[l1]at k1;simp only[Option.some.injEq]at k1;subst k1;have ez:z=v:=OV k2 l2 (bS (k3.one rfl)) c1;subst ez;obtain⟨z',j1,-,-,j4⟩:=k6 w S z [] (fun _ h=>h) rfl (fun h=>h) (fun _ _ _=>rfl) (nR k2) (by simp[Rel]);simp only[uc]at j4;subst j4;have uh:=hc.nodup r;rw[k4,List.nodup_append,List.nodup_append]at uh;have fC:∀b,b∈A++[]++B->b∈F r:=fun b hb=>by rw[k4];simp at hb⊢;rcases hb with h|h<;>simp[h]
 have oM:∀b,b∈F1->b∈F r:=fun b hb=>by rw[k4];simp[hb]
 have xb:∀b,b∈F1->b∉A++[]++B:=fun b hb dr=>by
  simp at dr;rcases dr with h|h
  ·exact uh.1.2.2 b h b hb rfl
  exact uh.2.2 b (by simp[hb]) b h rfl
 have hFz:F Z=[]:=by have:=hc.rel Z;rw[ai.ar (by rw[v8 (fun e=>hn.rz e.symm) (fun e=>hn.pz e.symm),hbz];rfl),v8 (fun e=>hn.rz e.symm) (fun e=>hn.pz e.symm),hbz]at this;simpa[Rel]using this
 have hFh:F h=[]:=by have:=hc.rel h;rw[ai.ar (by rw[v8 (fun e=>hn.rh e.symm) (fun e=>hn.ph e.symm),hbh];rfl),v8 (fun e=>hn.rh e.symm) (fun e=>hn.ph e.symm),hbh]at this;simpa[Rel]using this
 have Dl:=hc.rel p0;unfold ai at Dl;rw[Tp]at Dl;simp only[Bz hn.rp]at Dl;obtain⟨hFp,-,-,hpa,hpp⟩:=Dl;obtain⟨ad,q1,q2⟩:=hpp trivial (.inr trivial) fun _=>hex;rw[FA l1 k2 c1]at q1;have hT:=Er (V:=V) (a:=a) hn hN z;refine⟨z,S,fun i=>if i=r then A++[]++B else if i=Z then F1 else F i,ds,⟨fun j=>?_,fun j=>?_,fun j k MW b hb=>?_,fun j b hb=>?_,hc.shr⟩,hN,ig,jl,gw,⟨cU.os,cU.tape,cU.output,cU.size,cU.block⟩,hm.1,fun d hd=>?_⟩
 ·rw[hT];by_cases e1:j=h
  ·subst e1;unfold ai;rw[Nx];simp only[rI hn,ak];rw[if_neg (fun e=>hn.rh e.symm),if_neg (fun e=>hn.zh e.symm)];exact⟨hFh,Nat.le_refl _,Nat.le_refl _,fun _ _ _=>⟨.val z,by rw[ab _ _ hn.zh,ak];rfl,rfl,by simp⟩⟩
  by_cases e2:j=Z
  ·subst e2;rw[ai.ar (by rw[rI hn];rfl),rI hn,if_neg (fun e=>hn.rz e.symm),if_pos rfl,ab _ _ hn.zh,ak];exact k3
  by_cases e3:j=p0
  ·subst e3;unfold ai;rw[Nw hn];simp only[rI hn];rw[if_neg (fun e=>hn.rp e.symm),if_neg hn.pz,ab _ _ hn.ph,ab _ _ hn.pz];exact⟨hFp,Nat.le_refl _,Nat.le_refl _,hpa,fun _ _ _=>⟨ad,by rw[ab _ _ hn.zh,ak];exact q1,q2⟩⟩
  by_cases e4:j=r
  ·subst e4;rw[ai.ar (by rw[CK hn];exact j1.plain),CK hn,if_pos rfl,ab _ _ hn.rh,ab _ _ hn.rz];exact j1
  have hj:=hc.rel j;rw[ai.ar (by rw[v8 e4 e3];exact hb j),v8 e4 e3]at hj;rw[ai.ar (by rw[CL e4 e3 e2 e1];exact hb j),CL e4 e3 e2 e1,if_neg e4,if_neg e2,ab _ _ e1,ab _ _ e2];exact hj
 ·by_cases e:j=r
  ·simp only[e,if_true];rw[List.append_nil,List.nodup_append];exact⟨uh.1.1,uh.2.1,fun a ha b hb=>uh.2.2 a (by simp[ha]) b hb⟩
  simp only[e,if_false];by_cases e2:j=Z
  ·simp only[e2,if_true];exact uh.1.2.1
  simp only[e2,if_false];exact hc.nodup j
 ·by_cases ej:j=r
  ·simp only[ej,if_true]at hb;have hk:k≠r:=fun e=>MW (ej.trans e.symm);simp only[hk,if_false];by_cases ek:k=Z
   ·simp only[ek,if_true];exact fun dr=>xb b dr hb
   simp only[ek,if_false];exact hc.cx r k (fun e=>hk e.symm) b (fC b hb)
  simp only[ej,if_false]at hb;by_cases Ba:j=Z
  ·simp only[Ba,if_true]at hb;by_cases ek:k=r
   ·simp only[ek,if_true];exact xb b hb
   have O2:k≠Z:=fun e=>MW (Ba.trans e.symm);simp only[ek,O2,if_false];exact hc.cx r k (fun e=>ek e.symm) b (oM b hb)
  simp only[Ba,if_false]at hb;by_cases ek:k=r
  ·simp only[ek,if_true];exact fun dr=>hc.cx j r ej b hb (fC b dr)
  simp only[ek,if_false];by_cases ZM:k=Z
  ·simp only[ZM,if_true];exact fun dr=>hc.cx j r ej b hb (oM b dr)
  simp only[ZM,if_false];exact hc.cx j k MW b hb
 ·by_cases ej:j=r
  ·simp only[ej,if_true]at hb;exact hc.own r b (fC b hb)
  simp only[ej,if_false]at hb;by_cases Ba:j=Z
  ·simp only[Ba,if_true]at hb;exact hc.own r b (oM b hb)
  simp only[Ba,if_false]at hb;exact hc.own j b hb
 obtain⟨D,e1,e2,e3,e4,e5⟩:=hm.2 d hd;refine⟨D,e1,e2,e3,e4,fun j hj=>?_⟩;by_cases ej:j=r
 ·simp only[ej,if_true]at hj;exact e5 r (fC D hj)
 simp only[ej,if_false]at hj;by_cases Ba:j=Z
 ·simp only[Ba,if_true]at hj;exact e5 r (oM D hj)
 simp only[Ba,if_false]at hj;exact e5 j hj
theorem HM{sz i fe:Nat}{ys:List AV}{av2 av3:AV}{v:Value}{s':Path}(hn:Names N r p0 Z h)(hb:∀i,(base i).av.plain=true)(hbz:(base Z).av=.dead)(hbh:(base h).av=.dead)(hp:av2.plain=true)
 (hg:a6 av2 Q=some (.pv (·=v)))(hs:c8 av2 Q (.list .own sz ys)=some av3)(bj:flat (.idx i fe::s')=true)
 (hi:kM N (V.xH Z h v) w0 S0 (sH base r p0 Z h av2 (.list .own sz ys) (.idx i fe::s')) a w):kM N V w0 S0 (Qu base r p0 av3 (Q++.idx i fe::s')) a w:=by
 obtain⟨S,F,ds,hc,hN,ig,jl,gw,cU,hm⟩:=hi;have hT:=Er (V:=V) (a:=a) hn hN v;rw[hT]at hc;have hr:=hc.rel r;rw[ai.ar (by rw[CK hn];exact hp),CK hn,ab _ _ hn.rh,ab _ _ hn.rz]at hr;have hz:=hc.rel Z;rw[ai.ar (by rw[rI hn];rfl),rI hn,ab _ _ hn.zh,ak]at hz;have c1:v.cells=#[v]:=bS (hz.one rfl);obtain⟨L,z,A,F1,B,k1,k2,k3,k4,k5,k6⟩:=Rel.fB Q (L:=.val (tv V a r)) hr rfl hg hs (hc.nodup r) (fun b hb=>(hc.own r b hb).2.2) (by simp[Loc.iu]);simp only[Rel]at k3;obtain⟨ez,eF⟩:=k3;subst ez;subst eF;obtain⟨z',j1,-,-,j4⟩:=k6 w S z (F Z) (fun _ h=>h) rfl (fun h=>h) (fun _ _ _=>rfl) (nR k2) hz;simp only[uc]at j4;subst j4;have uh:=hc.nodup r;rw[k4,List.append_nil,List.nodup_append]at uh;have fC:∀b,b∈A++F Z++B->b∈F r\/b∈F Z:=fun b hb=>by rw[k4];simp at hb⊢;rcases hb with h|h|h<;>simp[h]
 have W9:∀b,b∈F Z->b∉F r:=fun b hb=>hc.cx Z r (fun e=>hn.rz e.symm) b hb;have AG:(A++F Z++B).Nodup:=by
  rw[List.nodup_append,List.nodup_append];refine⟨⟨uh.1,hc.nodup Z,fun a ha b hb e=>?_⟩,uh.2.1,fun a ha b hb e=>?_⟩
  ·subst e;exact W9 a hb (by rw[k4];simp[ha])
  subst e;rcases List.mem_append.1 ha with ha|ha
  ·exact uh.2.2 a ha a hb rfl
  exact W9 a ha (by rw[k4];simp[hb])
 have hFh:F h=[]:=by have:=hc.rel h;unfold ai at this;rw[Nx]at this;exact this.1
 have Dl:=hc.rel p0;unfold ai at Dl;rw[Nw hn]at Dl;simp only[rI hn]at Dl;obtain⟨hFp,-,-,hpa,hpp⟩:=Dl;obtain⟨ad,q1,q2⟩:=hpp trivial (.inr trivial) fun hh=>by rw[bj]at hh;simp at hh
 rw[ab _ _ hn.zh,ak]at q1;rw[ab _ _ hn.ph,ab _ _ hn.pz]at q2 hpa;refine⟨S,fun i=>if i=r then A++F Z++B else if i=Z then[]else F i,ds,⟨fun j=>?_,fun j=>?_,fun j k MW b hb=>?_,fun j b hb=>?_,hc.shr⟩,hN,ig,jl,gw,⟨cU.os,cU.tape,cU.output,cU.size,cU.block⟩,hm.1,fun d hd=>?_⟩
 ·by_cases e3:j=p0
  ·subst e3;unfold ai;rw[Tp];simp only[Bz hn.rp];rw[if_neg (fun e=>hn.rp e.symm),if_neg hn.pz];exact⟨hFp,Nat.le_refl _,Nat.le_refl _,hpa,fun _ _ _=>⟨ad,by rw[FA k1 k2 c1];exact q1,q2⟩⟩
  by_cases e4:j=r
  ·subst e4;rw[ai.ar (by rw[Bz hn.rp];exact j1.plain),Bz hn.rp,if_pos rfl];exact j1
  rw[ai.ar (by rw[v8 e4 e3];exact hb j),v8 e4 e3,if_neg e4];by_cases e2:j=Z
  ·subst e2;rw[hbz,if_pos rfl];simp[Rel]
  rw[if_neg e2];by_cases e1:j=h
  ·subst e1;rw[hbh,hFh];simp[Rel]
  have hj:=hc.rel j;rw[ai.ar (by rw[CL e4 e3 e2 e1];exact hb j),CL e4 e3 e2 e1,ab _ _ e1,ab _ _ e2]at hj;exact hj
 ·by_cases e:j=r
  ·simp only[e,if_true];exact AG
  simp only[e,if_false];by_cases e2:j=Z
  ·simp only[e2,if_true];exact List.nodup_nil
  simp only[e2,if_false];exact hc.nodup j
 ·by_cases ej:j=r
  ·simp only[ej,if_true]at hb;have hk:k≠r:=fun e=>MW (ej.trans e.symm);simp only[hk,if_false];by_cases ek:k=Z
   ·simp only[ek,if_true];simp
   simp only[ek,if_false];rcases fC b hb with h1|h1
   ·exact hc.cx r k (fun e=>hk e.symm) b h1
   exact hc.cx Z k (fun e=>ek e.symm) b h1
  simp only[ej,if_false]at hb;by_cases Ba:j=Z
  ·simp only[Ba,if_true]at hb;simp at hb
  simp only[Ba,if_false]at hb;by_cases ek:k=r
  ·simp only[ek,if_true];intro dr;rcases fC b dr with h1|h1
   ·exact hc.cx j r ej b hb h1
   exact hc.cx j Z Ba b hb h1
  simp only[ek,if_false];by_cases ZM:k=Z
  ·simp only[ZM,if_true];simp
  simp only[ZM,if_false];exact hc.cx j k MW b hb
 ·by_cases ej:j=r
  ·simp only[ej,if_true]at hb;rcases fC b hb with h1|h1
   ·exact hc.own r b h1
   exact hc.own Z b h1
  simp only[ej,if_false]at hb;by_cases Ba:j=Z
  ·simp only[Ba,if_true]at hb;simp at hb
  simp only[Ba,if_false]at hb;exact hc.own j b hb
 obtain⟨D,e1,e2,e3,e4,e5⟩:=hm.2 d hd;refine⟨D,e1,e2,e3,e4,fun j hj=>?_⟩;by_cases ej:j=r
 ·simp only[ej,if_true]at hj;rcases fC D hj with h1|h1
  ·exact e5 r h1
  exact e5 Z h1
 simp only[ej,if_false]at hj;by_cases Ba:j=Z
 ·simp only[Ba,if_true]at hj;simp at hj
 simp only[Ba,if_false]at hj;exact e5 j hj
end
section
variable{R:Option Nat->Prop}{P:Program}{N:Nat}{F:St->Prop}{k:List It}{l:aP}
def yl:List (Nat×SV)->Bool
 |[]=>true
 |(_,x)::r=>b8 x.plain (yl r)
def yp(z:Nat):List (Nat×SV)->Bool
 |[]=>true
 |(i,_)::r=>b8 (ne' i z) (yp z r)
theorem px:∀{K:List (Nat×SV)},yl K=true->∀i,(dn (sl K) i).av.plain=true
 |[],_,i=>rfl
 |(j,x)::K,h,i=>by
  simp only[yl,aH]at h;simp only[sl,dC];by_cases e:i=j
  ·subst e;rw[ak];simp only[Cl.den,cH];exact h.1
  rw[ab _ _ e];exact px h.2 i
theorem lN{z:Nat}:∀{K:List (Nat×SV)},yp z K=true->(dn (sl K) z).av=.dead
 |[],_=>rfl
 |(j,x)::K,h=>by simp only[yp,aH,ne_iff]at h;simp only[sl,dC];rw[ab _ _ (fun e=>h.1 e.symm)];exact lN h.2
def LV(r p0:Nat)(v:SV)(q:Path)(K:List (Nat×SV)):List (Nat×SV):=(p0,.ptr r 0 0 q)::(r,v)::K
def BG(r p0 Z h:Nat)(v y:SV)(s:Path)(K:List (Nat×SV)):List (Nat×SV):=(h,.bg Z 0 0 [])::(Z,y)::(p0,.ptr Z 0 0 s)::(r,v)::K
theorem JP{r p0:Nat}{v:SV}{q:Path}{K:List (Nat×SV)}:dn (sl (LV r p0 v q K))=Qu (dn (sl K)) r p0 v.den q:=by simp only[LV,sl,dC,Qu,Cl.den,SV.den]
theorem E8{r p0 Z h:Nat}{v y:SV}{s:Path}{K:List (Nat×SV)}:dn (sl (BG r p0 Z h v y s K))=sH (dn (sl K)) r p0 Z h v.den y.den s:=by simp only[BG,sl,dC,sH,Cl.den,SV.den]
def WY(L:List (Nat×SV))(σ:St):Prop:=∃l,σ=dn l/\AD l L
theorem Rk{c:Code}{K0 K2:List (Nat×SV)}{r p0 Z h:Nat}{Q s':Path}{i fe:Nat}{v0 v3 y y2:SV}{v1 v2:(Value->Prop)->SV}{sz W4:Nat}{xs ys:List AV}{u:SV}
 (hn:Names N r p0 Z h)(h1:b8 (yl K0) (b8 (yp Z K0) (yp h K0))=true)(h2:b8 (yl K2) (b8 (yp Z K2) (yp h K2))=true)(hp0:v0.plain=true)(JW:∀C,(v2 C).plain=true)
 (hg:eX v0 Q=some ([],y))(hy:y.den=.list .own sz xs)(hs:∀C,ji v0 Q (.pv C)=some ([],v1 C))(hex:eX v0 (Q++.idx i fe::s')=some ([],u))
 (V1:∀C,eX (v2 C) Q=some ([],.pv C))(LX:y2.den=.list .own W4 ys)(gw:∀C,ji (v2 C) Q y2=some ([],v3))(bj:flat (.idx i fe::s')=true)
 (hc:∀C,AK R P N (fun _=>False) [.code c,.inv (WY (BG r p0 Z h (v2 C) y2 (.idx i fe::s') K2))] (sl (BG r p0 Z h (v1 C) y (.idx i fe::s') K0)))
 (hk:AK R P N F k (sl (LV r p0 v3 (Q++.idx i fe::s') K2))):AK R P N F (.code c::k) (sl (LV r p0 v0 (Q++.idx i fe::s') K0)):=by
 rw[aH,aH]at h1 h2;show AW R P N c (eh R P N F k) (dn (sl (LV r p0 v0 (Q++.idx i fe::s') K0)));intro V w0 S0 a w hR hi;rw[JP]at hi;obtain⟨v,hv⟩:=K9 (av1:=fun C=>(v1 C).den) hn (px h1.1) (lN h1.2.1) (lN h1.2.2) (by rw[cH];exact hp0) (by rw[bI hg trivial,hy]) (fun C=>dM (hs C) trivial) ⟨_,bI hex trivial⟩ hi.x;have bp:=hc (·=v);have bp:AW R P N c (eh R P N (fun _=>False) [.inv (WY (BG r p0 Z h (v2 (·=v)) y2 (.idx i fe::s') K2))]) (dn (sl (BG r p0 Z h (v1 (·=v)) y (.idx i fe::s') K0))):=bp;rw[E8,hy]at bp;have hR':R (V.xH Z h v).rd/\iV P (V.xH Z h v) w0:=⟨hR.1,⟨hR.2.laid,hR.2.apart⟩⟩;have hw:=bp.x (V:=V.xH Z h v) (w0:=w0) (S0:=S0) (a:=a) (w:=w) hR' hv;refine wpIn_mono hw fun e a' w'⟨σ',he,hx⟩=>?_;cases e with
 |normal=>obtain⟨l2,rfl,hf⟩:=(he:WY _ σ');have MR:=hx.fit hf.Es;rw[E8,LX]at MR;have hx3:=HM (av3:=v3.den) hn (px h2.1) (lN h2.2.1) (lN h2.2.2) (by rw[cH];exact JW _) (bI (V1 _) trivial) (by rw[<-LX];exact dM (gw _) trivial) bj MR;rw[<-JP]at hx3;exact⟨_,hk,hx3⟩
 |_=>exact(he:False).elim
end
end Go.Ai
namespace Go.Ai.Pg
open Go.Proofs Go.Ai Go.Ai.b6
set_option maxRecDepth 100000
set_option maxHeartbeats 0
theorem S8:aO Tryz.prog 22 [eK nA] (.i 0):=fZ fA (B:=[]) (by kernel_rfl)
theorem Q9:aO Tryz.prog 84 [xN,xS] (.i 0):=(Jx.same (bs:=[fo dP,xS]) rfl rfl).su (.cons C9 (.cons (.refl _) .nil))
theorem SA:aO Tryz.prog 48 [.ints .i64 false [0,0]] (.i 0):=fZ fA (B:=[]) (by kernel_rfl)
theorem GR:aO Tryz.prog 85 [xN,xS,eK nA] (.b false):=(wP.same (bs:=[fo dP,xS,eK nA]) rfl rfl).su (.cons C9 (.cons (.refl _) (.cons (.refl _) .nil)))
theorem QR:aO Tryz.prog 87 [xN,xS] (.fn (.func 170) [] [.box false xQ,.box false xS]):=(Cz.same (bs:=[fo dP,xS]) rfl rfl).su (.cons C9 (.cons (.refl _) .nil))
theorem X4:aO Tryz.prog 81 [ur,.i (-3)] (fq 1 8):=fZ fA (B:=[]) (by kernel_rfl)
theorem RF:aO Tryz.prog 88 [fq 1 16,fq 1 8] (fq 1 128):=fZ fA (B:=[]) (by kernel_rfl)
def uA:bw:=[49,47,49,50,56]
def Ny:bw:=[49,47,52]
def Ts:Nat->SV
 |0=>XU [49] [49] [49]
 |1=>XU uA [49] [49]
 |_=>XU uA Ny [49]
theorem NH{T:nL}(hT:∀g xs r,T g xs=some r->aO Tryz.prog g xs r){B:List Nat}{g:FuncId}{xs H out:List SV}{r:SV}(h:NM (exec Tryz.prog tt T B 100000) Tryz.prog tt g xs H=some (out,r)):jH Tryz.prog g H xs out r:=x9 hA hW (oA (B:=B) hA hm hW hT 100000) h
def pR(k:Nat):Path:=[.deref,.deref,.at 0 (some 3),.at 1 none,.idx 0 5,.at 1 none,.idx k 2,.at 1 none]
theorem Q0:jH Tryz.prog 89 [.box true (.box true (Ts 0))] [.bg 1000000 0 0 [.deref],.ptr 1000000 0 0 (pR 0),fq 1 128] [.box true (.box true (Ts 1))] (.bC []):=NH fA (B:=[]) (by kernel_rfl)
theorem QZ:jH Tryz.prog 89 [.box true (.box true (Ts 1))] [.bg 1000000 0 0 [.deref],.ptr 1000000 0 0 (pR 1),fq 1 4] [.box true (.box true (Ts 2))] (.bC []):=NH fA (B:=[]) (by kernel_rfl)
def Z9(st:bw):SV:=.row true 5 [.agg [.s di,.row true 2 [.agg [.i 1,.s uA],.agg [.i 0,.s Ny]],.i 1,.s st,.nil]]
def rmC(C:Value->Prop):SV:=.box true (.box true (.agg [.i 2,.pv C,.ints .i64 true [1],.i 0]))
theorem abj:aO Tryz.prog 81 [ur,.i 6] (fq 64 1):=fZ fA (B:=[]) (by kernel_rfl)
theorem QY(C:Value->Prop):jH Tryz.prog 89 [rmC C,Z9 [49]] [.bg 1000000 0 0 [.deref],.ptr 1000001 0 0 [.idx 0 5,.at 3 none],fq 64 1] [rmC C,Z9 [54,52]] (.bC []):=NH fA (B:=[]) (by kernel_rfl)
def pU:Path:=[.deref,.deref,.at 0 (some 3),.at 1 none]
def kU:List (Nat×SV):=[(6,.box true (.agg [.i 0,.nil,.nil])),(10,.box true ur),(16,.i 6),(96,.i 1),(97,.i 0)]
theorem Gg:aO Tryz.prog 36 [xN,eK nA,xS] (.bC [.agg [.i 2,.row false 5 [.agg [.s di,.row false 2 [.agg [.i 1,.s uA],.agg [.i 0,.s Ny]],.i 1,.s [54,52],.nil]],.ints .i64 false [1]],.i 0]):=by
 refine enter (fn:=Tryz.f36) Tryz.func36 rfl rfl rfl rfl ?_;refine r0 rfl ?_;refine cl rfl rfl NW rfl ?_;refine r0 rfl ?_;refine br rfl rfl rfl (fun g=>absurd rfl g) (fun _=>?_);refine r0 rfl ?_;refine cd rfl rfl S8 rfl ?_;refine r0 rfl ?_;refine cd rfl rfl Q9 rfl ?_;refine r0 rfl ?_;refine cd rfl rfl SA rfl ?_;refine k0 rfl (by kernel_rfl) ?_;refine br rfl rfl rfl (fun g=>absurd rfl g) (fun _=>?_);refine r0 rfl ?_;refine cl rfl rfl GR rfl ?_;refine r0 rfl ?_;refine cl rfl rfl CC rfl ?_;refine r0 rfl ?_;refine cl rfl rfl PM rfl ?_;refine r0 rfl ?_;refine cl rfl rfl QR rfl ?_;refine r0 rfl ?_;refine yc [3,4,10,11] [3,4,10,11] 2 2 (fun k=>[xV k]) (fun k=>[.box true xN,.box true (eK nA),.box true ur,.box true (.box true (Ts k))]) (fun _=>true) (fun _=>none) (.bC [])
  rfl rfl rfl rfl rfl Tryz.func170 rfl rfl rfl rfl rfl rfl (fun _ _=>rfl) (fun _=>rfl) ?_ rfl rfl (fun k _ h=>rfl) (fun C J hy=>xI C J fun v hv k hk=>hy v hv k hk fun _ _=>rfl) ?_ ?_ ?_
 ·intro k hk z hz;simp only[List.mem_cons,List.not_mem_nil,or_false]at hz;rcases hz with rfl|rfl|rfl|rfl<;>rfl
 ·intro k hk _
  match k,hk with
  |0,_=>refine r0 rfl ?_;refine pg ?_;refine r1 rfl (aI rfl) ?_;refine cl rfl rfl Tx rfl ?_;refine r0 rfl ?_;refine aB 57 rfl (fun _=>?_) (fun g=>absurd rfl g);refine r1 rfl (aI rfl) ?_;refine br rfl rfl rfl (fun _=>?_) (fun g=>absurd rfl g);refine r1 rfl (aI rfl) ?_;refine cd rfl rfl X4 rfl ?_;refine r0 rfl ?_;refine cd rfl rfl RF rfl ?_;refine k1 rfl (by kernel_rfl) (aI rfl) ?_;refine crd rfl rfl (Q0.same rfl rfl rfl rfl) rfl ?_;refine k0 rfl (by kernel_rfl) ?_;exact wm [(1000000,.box true xN),(1000001,.box true (eK nA)),(1000002,.box true ur),(1000003,.box true (.box true (Ts 1)))] rfl rfl ⟨⟨rfl,rfl,.refl _⟩,⟨rfl,rfl,.refl _⟩,⟨rfl,rfl,.refl _⟩,⟨rfl,rfl,.refl _⟩,trivial⟩ ⟨⟨rfl,rfl⟩,⟨rfl,rfl⟩,⟨rfl,rfl⟩,⟨rfl,rfl⟩,trivial⟩
  |1,_=>refine r0 rfl ?_;refine pg ?_;refine r1 rfl (aI rfl) ?_;refine cl rfl rfl Tz rfl ?_;refine r0 rfl ?_;refine aB 57 rfl (fun g=>absurd g (by decide)) (fun _=>?_);refine r1 rfl (aI rfl) ?_;refine crd rfl rfl (QZ.same rfl rfl rfl rfl) rfl ?_;refine k0 rfl (by kernel_rfl) ?_;exact wm [(1000000,.box true xN),(1000001,.box true (eK nA)),(1000002,.box true ur),(1000003,.box true (.box true (Ts 2)))] rfl rfl ⟨⟨rfl,rfl,.refl _⟩,⟨rfl,rfl,.refl _⟩,⟨rfl,rfl,.refl _⟩,⟨rfl,rfl,.refl _⟩,trivial⟩ ⟨⟨rfl,rfl⟩,⟨rfl,rfl⟩,⟨rfl,rfl⟩,⟨rfl,rfl⟩,trivial⟩
 ·intro _;refine r0 rfl ?_;refine fw ?_;refine r0 rfl ?_;refine br rfl rfl rfl (fun _=>?_) (fun g=>absurd (by decide) g);refine kno 32 rfl (by kernel_rfl) (aI rfl) ?_;refine JL (LV 11 15 (.box true (.box true (Ts 2))) (pU++.idx 0 5::[]) kU) ⟨⟨rfl,rfl,rfl⟩,⟨rfl,rfl,.refl _⟩,⟨rfl,rfl,.refl _⟩,⟨rfl,rfl,.refl _⟩,⟨rfl,rfl,.refl _⟩,⟨rfl,rfl,.refl _⟩,⟨rfl,rfl,.refl _⟩,trivial⟩ ?_;refine Rk (Z:=1000000) (h:=1000001) (y:=Z9 [49]) (y2:=Z9 [54,52]) (v1:=rmC) (v2:=rmC) (v3:=.box true (.box true (XU uA Ny [54,52]))) (K2:=kU)
   ⟨by decide,by decide,by decide,by decide,by decide,by decide,by decide,by decide,by decide⟩ rfl rfl rfl (fun _=>rfl) rfl rfl (fun _=>rfl) rfl (fun _=>rfl) rfl (fun _=>rfl) rfl (fun C=>?_) ?_
  ·refine r0 rfl ?_;refine cd rfl rfl abj rfl ?_;refine r0 rfl ?_;refine crd rfl rfl ((QY C).same rfl rfl rfl rfl) rfl ?_;refine k0 rfl (by kernel_rfl) ?_;exact⟨_,rfl,⟨⟨rfl,rfl,rfl⟩,⟨rfl,rfl,.refl _⟩,⟨rfl,rfl,rfl⟩,⟨rfl,rfl,.refl _⟩,⟨rfl,rfl,.refl _⟩,⟨rfl,rfl,.refl _⟩,⟨rfl,rfl,.refl _⟩,⟨rfl,rfl,.refl _⟩,⟨rfl,rfl,.refl _⟩,trivial⟩⟩
  exact PE fA (B:=[]) (by kernel_rfl)
 intro c hp;simp at hp
end Go.Ai.Pg
