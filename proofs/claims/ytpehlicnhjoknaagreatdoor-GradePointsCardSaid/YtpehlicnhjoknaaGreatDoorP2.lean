/- The layer of own lemmas and contracts, part 2. -/
import Derived.Test.YtpehlicnhjoknaaGreatDoorP1
import Derived.Lib.AppendStr
import Derived.Laws.StructEq
import Derived.MapKept
set_option linter.unusedVariables false
set_option linter.unusedSimpArgs false
namespace Go.Ide
open Go.RowKit
def a0m (C:Ctx)(f:Nat)(args:List D)(H:Hp)(n:Nat)(Φ:D→Hp→Nat→Prop):Prop :=
 a3b C.P f∧∀ (F:Fra) (ρ:Lk) (w:World) (vs:Array Value),Mem C F ρ H w→a9l ρ n→(∀ e∈H,e.g<n)→vs.size=args.length →
  (∀ (i:Nat) (d:D),args[i]? = some d→Rep ρ (Own F.X ρ H) w d (vs.getD i undef)) →
  Calls C.P f vs w (fun e w'=>∃ v d H' n' ρ',e=.returned v∧Φ d H' n'∧Mem C F ρ' H' w'∧Ext ρ (Own F.X ρ H) w ρ' (Own F.X ρ' H') w'∧a9l ρ' n'∧(∀ e∈H',e.g<n') ∧
   Rep ρ' (Own F.X ρ' H') w' d v)
def Fra.sub (F:Fra)(ρ:Lk)(H:Hp)(w:World)(nt:Nat):Fra:=⟨w,F.X,fun b=>∃ e∈H,ρ e.k e.g=some b,nt,ρ,[]⟩
section
variable {C:Ctx} {F:Fra} {ρ:Lk} {H:Hp} {w:World}
theorem Mem.enter (m:Mem C F ρ H w)(nt:Nat):Mem C (F.sub ρ H w nt) ρ H w where
 hok:=⟨m.hok.ent,m.hok.inj,fun e he b hb=>⟨(m.hok.own e he b hb).1,.inr ⟨e,he,hb⟩⟩⟩
 os:=rfl
 tape:=rfl
 output:=rfl
 size:=Nat.le_refl _
 blk:=fun _ _ _=>rfl
 xlt:=fun b hb=>Nat.lt_of_lt_of_le (m.xlt b hb) m.size
 g0:=m.g
 gn:=Nat.le_trans m.gn m.size
 gw:=fun b ⟨e,he,hb⟩=>by
  rcases (m.hok.own e he b hb).2 with h|h
  ·exact Nat.le_trans m.gn h
  ·exact m.gw b h
 lnk:=fun _ _ _ h=>h
 shp:=fun _ cs _ _ h=>⟨cs,_,h,rfl⟩
theorem Mem.leave {nt:Nat}{ρ':Lk}{H':Hp}{w':World}(m:Mem C F ρ H w)(m':Mem C (F.sub ρ H w nt) ρ' H' w') :
  Mem C F ρ' H' w'∧Ext ρ (Own F.X ρ H) w ρ' (Own F.X ρ' H') w':=by
 have hwr:∀ b,(∃ e∈H,ρ e.k e.g=some b)→¬ F.X b∧(F.w0.heap.size≤b∨F.Wr b):=fun b ⟨e,he,hb⟩=>m.hok.own e he b hb
 have x:Ext ρ (Own F.X ρ H) w ρ' (Own F.X ρ' H') w':=by
  refine ⟨m'.size,m'.lnk,fun b hb hO=>⟨?_,m'.blk b hb fun h=>hO (.inr h)⟩,m'.shp⟩;rintro (h|⟨e,he,h⟩)
  ·exact hO (.inl h)
  ·rcases (m'.hok.own e he b h).2 with h'|h'
   ·exact absurd hb (Nat.not_lt.2 h')
   ·exact hO (.inr h')
 refine ⟨⟨⟨m'.hok.ent,m'.hok.inj,fun e he b hb=>?_⟩,m'.os.trans m.os,m'.tape.trans m.tape,m'.output.trans m.output,Nat.le_trans m.size m'.size,fun b hb hw=>?_,m.xlt,m.g0,m.gn,m.gw,
  fun _ _ _ h=>m'.lnk _ _ _ (m.lnk _ _ _ h),a3o m.shp x⟩,x⟩
 ·have h:=m'.hok.own e he b hb
  refine ⟨h.1,?_⟩;rcases h.2 with h'|h'
  ·exact .inl (Nat.le_trans m.size h')
  ·exact (hwr b h').2
 ·have h1:=m'.blk b (Nat.lt_of_lt_of_le hb m.size) fun h=>by
   rcases (hwr b h).2 with h'|h'
   ·omega
   ·exact hw h'
  exact h1.trans (m.blk b hb hw)
end
def d2J (tt:Nat→Option a0k)(rs:List ResultVar)(Φ:D→Hp→Nat→Prop):Exit→St→Prop:=fun e s =>
 (e=.normal∨e=.ret)∧∃ d p,b9t tt s rs=some (d,p)∧p∧Φ d s.H s.n
section
variable {C:Ctx} {F:Fra} {s:St} {ops:Array Oper} {o:Oper} {os:List Oper} {K:St→Prop}
theorem a7N {ρ:Lk}{O:Nat→Prop}{w:World}{args:List D}{vs:Array Value}{nt:Nat}(hvs:vs.size=args.length)(hr:∀ (i:Nat) (d:D),args[i]? = some d→Rep ρ O w d (vs.getD i undef))(t:Nat) :
  Rep ρ O w ((a1h 0 args).get t) ((vs++Array.replicate (nt - vs.size) undef).getD t undef):=by
 rw [a6j,if_pos (Nat.zero_le _),Nat.sub_zero];cases ha:args[t]? with
 | none=>exact .any _
 | some d =>
  have ht:t<args.length:=(List.getElem?_eq_some_iff.1 ha).1
  have:(vs++Array.replicate (nt - vs.size) undef).getD t undef=vs.getD t undef:=by
   simp only [Array.getD_eq_getD_getElem?];rw [Array.getElem?_append_left (by omega)]
  rw [this];exact hr t d ha
theorem a0m.intro {f:Nat}{fn:Func}{c:Code}{args:List D}{H:Hp}{n:Nat}{Φ:D→Hp→Nat→Prop}{tt:Nat→Option a0k}(htt:Tab C.P tt)(hf:C.P.funcs[f]? = some fn)(hb:fn.body=some c)
  (hn:(fn.name == "runtime.NumGoroutine")=false) (hd:a0E fn.ntmps c=true) (hnt:Nat.ble args.length fn.ntmps=true)
  (h:∀ F:Fra,F.nt=fn.ntmps→Ok C F c ⟨a1h 0 args,H,n⟩ (d2J tt fn.results.toList Φ)):a0m C f args H n Φ:=by
 refine ⟨⟨fn,c,hf,hb,hn⟩,fun F ρ w vs m hfr hg hvs hr=>?_⟩;have hnt:=Nat.le_of_ble_eq_true hnt;refine calls_of_wp hf hb ?_;have sat:Sat C (F.sub ρ H w fn.ntmps) ρ ⟨a1h 0 args,H,n⟩ { tmps:=vs++Array.replicate (fn.ntmps - vs.size) undef,defers:=[] } w :=
  ⟨m.enter _,hfr,hg,a7N hvs hr,by simp [Fra.sub];omega,rfl⟩
 refine wp_mono (h (F.sub ρ H w fn.ntmps) rfl hd ρ _ w sat) ?_;rintro e a' w' ⟨s',ρ',⟨he,d,p,h1,h2,h3⟩,hs'⟩;obtain ⟨v,r1,r2⟩:=b3N htt hs' h1 h2;obtain ⟨m',x⟩:=m.leave hs'.mem;rcases he with rfl|rfl
 ·exact ⟨hs'.dfr,v,r1,v,d,_,_,ρ',rfl,h3,m',x,hs'.fresh,hs'.gen,r2⟩
 ·exact ⟨hs'.dfr,v,r1,v,d,_,_,ρ',rfl,h3,m',x,hs'.fresh,hs'.gen,r2⟩
theorem OkL.callH {f:Nat}{first captured ds:List D}{fop:Operand}{args:Array Operand}{tys:Array Nat}{Φ:D→Hp→Nat→Prop}(hw:a0N ops s.env o=some true)(ho:o.op=.call ⟨.value fop,args,tys⟩)
  (hf:a1g s.env fop=.clo (.func f) first captured) (hds:first++args.toList.map (a1g s.env)++captured=ds) (hc:a0m C f ds s.H s.n Φ)
  (h:∀ d H' n',Φ d H' n'→OkL C F ops os ⟨a1N s.env o.dst d,H',n'⟩ K):OkL C F ops (o::os) s K:=by
 intro hd l hl ρ a w hs;cases l with
 | nil=>simp at hl
 | cons i l =>
  simp only [List.map_cons,List.cons.injEq] at hl;simp only [List.all_cons,Bool.and_eq_true] at hd;obtain ⟨vs,h1,h2,h3⟩:=a6I ho hf hc.1 hs;rw [hds] at h2 h3;simp only [wpOps,hl.1];rw [if_pos (a2x hs.env hw)];refine .inl ?_;unfold Oper.wp;rw [h1];refine (hc.2 F ρ w vs hs.mem hs.fresh hs.gen h2 h3).mono ?_;rintro e w' ⟨v,d,H',n',ρ',rfl,hΦ,m,x,fr,g,r⟩;exact h d H' n' hΦ hd.2 l hl.2 ρ' (a.put o.dst v) w' (hs.put m x fr g r hd.1)
end
section
variable {C:Ctx} {F:Fra} {ρ:Lk} {H:Hp} {w:World}
theorem Mem.rename {H1 H2:Hp}{e:Ent}{b k n:Nat}(m:Mem C F ρ (H1++e::H2) w)(hb:ρ e.k e.g=some b)(hn:ρ k n=none)(hne:∀ e'∈H1++e::H2,e'.g≠n) :
  Mem C F (ρ.put k n b) (⟨k,n,e.T,e.sz,e.es⟩::(H1++H2)) w∧Ext ρ (Own F.X ρ (H1++e::H2)) w (ρ.put k n b) (Own F.X (ρ.put k n b) (⟨k,n,e.T,e.sz,e.es⟩::(H1++H2))) w:=by
 have hold:∀ e'∈H1++e::H2,∀ b',ρ.put k n b e'.k e'.g=some b'↔ρ e'.k e'.g=some b':=fun e' he' b'=>by
  unfold Lk.put;rw [if_neg fun h=>hne e' he' h.2]
 have hmem:∀ e',e'∈H1++e::H2↔e'=e∨e'∈H1++H2:=fun e'=>by simp;constructor<;>(rintro (h|h|h)<;>simp [h])
 have hO:∀ b',Own F.X (ρ.put k n b) (⟨k,n,e.T,e.sz,e.es⟩::(H1++H2)) b'↔Own F.X ρ (H1++e::H2) b':=by
  intro b';unfold Own;refine or_congr Iff.rfl ⟨?_,?_⟩
  ·rintro ⟨e',he',h⟩
   rcases List.mem_cons.1 he' with rfl|he'
   ·rw [Lk.put_same] at h;exact ⟨e,by simp,by rw [hb];exact h⟩
   ·have hm:=(hmem e').2 (.inr he')
    exact ⟨e',hm,(hold e' hm b').1 h⟩
  ·rintro ⟨e',he',h⟩
   rcases (hmem e').1 he' with rfl|h2
   ·rw [hb] at h;cases h
    exact ⟨_,List.mem_cons_self ..,Lk.put_same _ _ _ _⟩
   ·exact ⟨e',List.mem_cons_of_mem _ h2,(hold e' he' b').2 h⟩
 have hOe:Own F.X (ρ.put k n b) (⟨k,n,e.T,e.sz,e.es⟩::(H1++H2))=Own F.X ρ (H1++e::H2):=funext fun b=>propext (hO b)
 have x:Ext ρ (Own F.X ρ (H1++e::H2)) w (ρ.put k n b) (Own F.X (ρ.put k n b) (⟨k,n,e.T,e.sz,e.es⟩::(H1++H2))) w :=
  ⟨Nat.le_refl _,fun _ _ _ h=>Lk.put_old hn h,fun b' _ h=>⟨by rw [hOe];exact h,rfl⟩,fun _ cs _ _ h=>⟨cs,_,h,rfl⟩⟩
 have hinj:=m.hok.inj;rw [List.pairwise_append,List.pairwise_cons] at hinj;obtain ⟨p1,⟨p2,p3⟩,p4⟩:=hinj;refine ⟨⟨⟨fun e' he'=>?_,?_,fun e' he' b' hb'=>?_⟩,m.os,m.tape,m.output,m.size,m.blk,m.xlt,m.g0,m.gn,m.gw,fun _ _ _ h=>x.link _ _ _ (m.lnk _ _ _ h),m.shp⟩,x⟩
 ·rcases List.mem_cons.1 he' with rfl|h2
  ·obtain ⟨cs,a1,a2⟩:=m.at (e:=e) (by simp) hb
   have z:=a2.mono x;exact .inr ⟨b,cs,Lk.put_same _ _ _ _,a1,z.len,z.siz,z.one,z.rep⟩
  ·have hm:=(hmem e').2 (.inr h2)
   rcases m.hok.ent e' hm with ⟨a1,a2⟩|⟨b',cs,a1,a2,a3⟩
   ·exact .inl ⟨a1,by unfold Lk.put;rw [if_neg fun h=>hne e' hm h.2];exact a2⟩
   ·exact .inr ⟨b',cs,(hold e' hm b').2 a1,a2,a3.mono x⟩
 ·rw [List.pairwise_cons,List.pairwise_append]
  have tr:∀ {e1 e2:Ent},e1∈H1++e::H2→e2∈H1++e::H2→(∀ b b',ρ e1.k e1.g=some b→ρ e2.k e2.g=some b'→b≠b')→∀ b1 b2,ρ.put k n b e1.k e1.g=some b1→ρ.put k n b e2.k e2.g=some b2→b1≠b2 :=
   fun h1 h2 h b1 b2 hb1 hb2=>h b1 b2 ((hold _ h1 b1).1 hb1) ((hold _ h2 b2).1 hb2)
  refine ⟨fun e2 he2 b1 b2 hb1 hb2=>?_,?_,?_,?_⟩
  ·rw [Lk.put_same] at hb1;cases hb1
   have hm:=(hmem e2).2 (.inr he2);have hb2:=(hold _ hm b2).1 hb2;rcases List.mem_append.1 he2 with h|h
   ·exact fun he=>p4 e2 h e (by simp) b2 b hb2 hb he.symm
   ·exact p2 e2 h b b2 hb hb2
  ·exact p1.imp_of_mem fun h1 h2 h=>tr (by simp [h1]) (by simp [h2]) h
  ·exact p3.imp_of_mem fun h1 h2 h=>tr (by simp [h1]) (by simp [h2]) h
  ·exact fun e1 h1 e2 h2=>tr (by simp [h1]) (by simp [h2]) (p4 e1 h1 e2 (by simp [h2]))
 ·rcases List.mem_cons.1 he' with rfl|h2
  ·rw [Lk.put_same] at hb';cases hb'
   exact m.hok.own e (by simp) b hb
  ·have hm:=(hmem e').2 (.inr h2)
   exact m.hok.own e' hm b' ((hold _ hm b').1 hb')
theorem Mem.ghost {k n T sz:Nat}(m:Mem C F ρ H w)(hn:ρ k n=none):Mem C F ρ (⟨k,n,T,sz,[]⟩::H) w∧Own F.X ρ (⟨k,n,T,sz,[]⟩::H)=Own F.X ρ H:=by
 have hO:Own F.X ρ (⟨k,n,T,sz,[]⟩::H)=Own F.X ρ H:=funext fun b=>propext (by
  unfold Own;refine or_congr Iff.rfl ⟨?_,fun ⟨e,he,h⟩=>⟨e,List.mem_cons_of_mem _ he,h⟩⟩;rintro ⟨e,he,h⟩;rcases List.mem_cons.1 he with rfl|he
  ·rw [hn] at h;cases h
  ·exact ⟨e,he,h⟩)
 refine ⟨⟨⟨fun e he=>?_,?_,fun e he b hb=>?_⟩,m.os,m.tape,m.output,m.size,m.blk,m.xlt,m.g0,m.gn,m.gw,m.lnk,m.shp⟩,hO⟩
 ·rw [hO]
  rcases List.mem_cons.1 he with rfl|he
  ·exact .inl ⟨rfl,hn⟩
  ·exact m.hok.ent e he
 ·refine List.pairwise_cons.2 ⟨fun e he b b' hb _=>?_,m.hok.inj⟩
  rw [hn] at hb;cases hb
 ·rcases List.mem_cons.1 he with rfl|he
  ·rw [hn] at hb;cases hb
  ·exact m.hok.own e he b hb
def b6y (H:Hp)(esz:Nat):D→Option (List D × Prop)
 | .sl _ sz es=>some (es,sz=esz)
 | .osl k g sz i len=>match Hp.get H k with
  | some e=>some ((e.es.drop i).take len,g=e.g∧sz=e.sz∧sz=esz∧i+len≤e.es.length)
  | none=>none
 | .prim (.slice none 0 0)=>some ([],True)
 | _=>none
structure Src (ρ:Lk)(O:Nat→Prop)(w:World)(esz:Nat)(es:List D)(a:Addr)(f:Nat→Value):Prop where
 cell:∀ j,j<es.length*esz→w.cell? (a.add j)=some (f j)
 one:∀ j,j<es.length*esz→one (f j)=true
 siz:∀ (i:Nat) (e:D),es[i]? = some e→e.cells.length=esz
 rep:∀ (i:Nat) (e:D) (j:Nat) (d:D),es[i]? = some e→e.cells[j]? = some d→Rep ρ O w d (f (i*esz+j))
structure c7h (ρ:Lk)(O:Nat→Prop)(w:World)(esz:Nat)(es:List D)(f:Nat→Value):Prop where
 one:∀ j,j<es.length*esz→one (f j)=true
 siz:∀ (i:Nat) (e:D),es[i]? = some e→e.cells.length=esz
 rep:∀ (i:Nat) (e:D) (j:Nat) (d:D),es[i]? = some e→e.cells[j]? = some d→Rep ρ O w d (f (i*esz+j))
theorem Src.srcv {ρ:Lk}{O:Nat→Prop}{w:World}{esz:Nat}{es:List D}{a:Addr}{f:Nat→Value}(h:Src ρ O w esz es a f):c7h ρ O w esz es f:=⟨h.one,h.siz,h.rep⟩
theorem c4D {esz:Nat}{d:D}{v:Value}{es:List D}{p:Prop}(m:Mem C F ρ H w)(h:b6y H esz d=some (es,p))(hp:p)(hr:Rep ρ (Own F.X ρ H) w d v) :
  (v=.slice none 0 0∧es=[])∨∃ a c f,v=.slice (some a) es.length c∧es.length≤c∧Src ρ (Own F.X ρ H) w esz es a f:=by
 unfold b6y at h;split at h<;>first|(cases h;done)|skip
 ·cases h
  cases hr with
  | nil=>exact .inl ⟨rfl,rfl⟩
  | emp a=>exact .inr ⟨a,0,fun _=>undef,rfl,by simp,fun j hj=>by simp at hj,fun j hj=>by simp at hj,fun i e h=>by simp at h,fun i e j d h=>by simp at h⟩
  | sl f hl hc hO hb hz hcell ho hh =>
   subst hp;refine .inr ⟨_,_,f,by rw [hl],by omega,fun j hj=>?_,fun j hj=>ho j (by rw [← hl];exact hj),hz,hh⟩;rw [a4d];exact hcell j (by rw [← hl];exact hj)
 ·rename_i k g sz i len
  split at h<;>first|(cases h;done)|skip
  rename_i e he;cases h;obtain ⟨rfl,rfl,rfl,hle⟩:=hp;obtain ⟨hm,hk⟩:=Hp.get_mem he;cases hr with
  | onil=>exact .inl ⟨rfl,by simp⟩
  | osl hr hb hc hs hmx =>
   rename_i cap b T cs fz;rw [← hk] at hr;obtain ⟨cs',h1,h2⟩:=m.at hm hr;rw [hb] at h1;cases h1;have hlen:((e.es.drop i).take len).length=len:=by simp;omega
   have hin:∀ j,j<len*e.sz→i*e.sz+j<cs.size:=fun j hj=>by
    have:(i+len)*e.sz≤e.es.length*e.sz:=Nat.mul_le_mul_right _ hle
    rw [Nat.add_mul] at this;have:=h2.len;omega
   have hget:∀ (q:Nat) (d:D),((e.es.drop i).take len)[q]? = some d→e.es[i+q]? = some d:=fun q d hq=>by
    rw [List.getElem?_take] at hq;split at hq
    ·rwa [List.getElem?_drop] at hq
    ·cases hq
   refine .inr ⟨_,cap,fun j=>cs.getD (i*e.sz+j) undef,by rw [hlen],by omega,fun j hj=>?_,fun j hj=>?_,fun q d hq=>h2.siz _ d (hget q d hq),fun q d j c hq hc=>?_⟩
   ·rw [hlen] at hj
    have:=hin j hj
    rw [a4d];simp [World.cell?,hb,this]
   ·rw [hlen] at hj
    have h':=hin j hj
    have:=h2.one (i*e.sz+j) (cs[i*e.sz+j]) (Array.getElem?_eq_getElem h')
    simpa [Array.getD_eq_getD_getElem?,Array.getElem?_eq_getElem h'] using this
   ·have:=h2.rep (i+q) d j c (hget q d hq) hc
    rw [Nat.add_mul,Nat.add_assoc] at this;exact this
 ·cases h
  cases hr;exact .inl ⟨rfl,rfl⟩
def evA (tt:Nat→Option a0k)(H:Hp)(n k:Nat)(g:Operand→D):Op→Option (D × Hp × Prop)
 | .call ⟨.builtin .append,args,tys⟩=>match args.toList with
  | [s,x]=>match tys.toList with
   | [t,t']=>match Nat.beq t t' with
    | true=>match tt t with
     | some i=>match i.ti with
      | .slice e esz eby _=>match b6y H esz (g x) with
       | some (news,p)=>match g s with
        | .osl k1 g1 sz 0 len=>match Hp.get H k1 with
         | some e1=>some (.osl k n esz 0 (len+news.length),⟨k,n,e,esz,e1.es.take len++news⟩::Hp.del H k1,
           p∧g1=e1.g∧sz=e1.sz∧sz=esz∧e1.T=e∧len≤e1.es.length∧(len+news.length)*eby≤140737488355328∧1≤eby∧1≤esz)
         | none=>none
        | .prim (.slice none 0 0)=>some (.osl k n esz 0 news.length,⟨k,n,e,esz,news⟩::H,p∧news.length*eby≤140737488355328∧1≤eby∧1≤esz)
        | _=>none
       | none=>none
      | _=>none
     | none=>none
    | false=>none
   | _=>none
  | _=>none
 | _=>none
theorem a3l {P:Program}{t e:Nat}{ty:Nat}{i:TypeInfo}(ht:P.underlying t=some (.slice e))(hi:P.info? e=some i){ao:Option Addr}{len cap:Nat}(hlc:len≤cap) :
  (Builtin.append_ #[t,t] ty #[.slice ao len cap,.slice none 0 0]).run P w=.ok (.slice ao len cap) w:=by
 cases ao<;>simp [Builtin.append_,a0f ht,sizeOf,typeInfo,hi,Builtin.lenOf,hlc,run_firstCells_none,storeCells]
theorem c2Q {O:Nat→Prop}{e:Ent}{k g T len:Nat}{news:List D}{f:Nat→Value}{cs cs':Array Value}(h:a2j ρ O w e cs)(hl:len≤e.es.length)(hs:c7h ρ O w e.sz news f)
  (hlow:∀ q,q<len*e.sz→cs'.getD q undef=cs.getD q undef) (hmid:∀ j,j<news.length*e.sz→cs'.getD (len*e.sz+j) undef=f j) (hsize:(len+news.length)*e.sz≤cs'.size)
  (hone:∀ (q:Nat) (v:Value),cs'[q]? = some v→one v=true):a2j ρ O w ⟨k,g,T,e.sz,e.es.take len++news⟩ cs':=by
 have hlen:(e.es.take len).length=len:=by simp;omega
 have hget:∀ (i:Nat) (d:D),(e.es.take len++news)[i]? = some d→(i<len∧e.es[i]? = some d)∨(len≤i∧news[i - len]? = some d):=fun i d hd=>by
  rcases Nat.lt_or_ge i len with hi|hi
  ·rw [List.getElem?_append_left (by omega),List.getElem?_take,if_pos hi] at hd;exact .inl ⟨hi,hd⟩
  ·rw [List.getElem?_append_right (by omega),hlen] at hd;exact .inr ⟨hi,hd⟩
 refine ⟨by dsimp only;rw [List.length_append,hlen];exact hsize,fun i d hd=>?_,hone,fun i d j c hd hc=>?_⟩
 ·rcases hget i d hd with ⟨_,h1⟩|⟨_,h1⟩
  ·exact h.siz i d h1
  ·exact hs.siz _ d h1
 ·dsimp only at hd ⊢
  rcases hget i d hd with ⟨hi,h1⟩|⟨hi,h1⟩
  ·have hj:j<e.sz:=by rw [← h.siz i d h1];exact (List.getElem?_eq_some_iff.1 hc).1
   rw [hlow]
   ·exact h.rep i d j c h1 hc
   ·have:(i+1)*e.sz≤len*e.sz:=Nat.mul_le_mul_right _ hi
    rw [Nat.add_mul] at this;omega
  ·have hj:j<e.sz:=by rw [← hs.siz _ d h1];exact (List.getElem?_eq_some_iff.1 hc).1
   have hil:i - len<news.length:=(List.getElem?_eq_some_iff.1 h1).1;have e1:i*e.sz+j=len*e.sz+((i - len)*e.sz+j):=by
    have:i=len+(i - len):=by omega
    conv=>lhs;rw [this,Nat.add_mul]
    omega
   rw [e1,hmid]
   ·exact hs.rep _ d j c h1 hc
   ·have:(i - len+1)*e.sz≤news.length*e.sz:=Nat.mul_le_mul_right _ hil
    rw [Nat.add_mul] at this;omega
structure c4O (P:Program)(t e esz eby:Nat)(ez:Value):Prop where
 under:P.underlying t=some (.slice e)
 inf:∃ i:TypeInfo,P.info? e=some i∧i.size=esz∧i.bytes=eby∧i.zero=some ez
 zs:ez.cells.size=esz
 zo:∀ (j:Nat) (x:Value),ez.cells[j]? = some x→one x=true
theorem a6d {z:Array Value}(hz:∀ (j:Nat) (x:Value),z[j]? = some x→one x=true)(n:Nat):∀ (q:Nat) (v:Value),(Builtin.zeroCells z n)[q]? = some v→one v=true:=fun q v hv=>by
 unfold Builtin.zeroCells at hv;rw [Array.getElem?_map] at hv;cases hr:(Array.range (n*z.size))[q]? with
 | none=>rw [hr] at hv;cases hv
 | some i =>
  rw [hr] at hv;simp only [Option.map_some,Option.some.injEq] at hv;have hi:i<n*z.size:=by
   obtain ⟨h1,h2⟩:=Array.getElem?_eq_some_iff.1 hr;simp at h2 h1;omega
  have hpos:0<z.size:=by
   rcases Nat.eq_zero_or_pos z.size with h|h
   ·rw [h] at hi;simp at hi
   ·exact h
  have hlt:=Nat.mod_lt i hpos;rw [← hv,getElem!_pos z (i%z.size) hlt];exact hz (i%z.size) _ (Array.getElem?_eq_getElem hlt)
theorem b2W {P:Program}{t e esz eby ty:Nat}{ez:Value}(T:c4O P t e esz eby ez){b len cap c:Nat}{cs:Array Value}(hb:w.heap[b]? = some (.cells cs e (0,0)))(hlc:len*esz≤cs.size){news:List D}{a:Addr}{f:Nat→Value}{O:Nat→Prop}
  (hs:Src ρ O w esz news a f) (hg:cap<len+news.length) (hby:(len+news.length)*eby≤140737488355328) (h1:1≤eby) :
  (Builtin.append_ #[t,t] ty #[.slice (some ⟨b,0,none⟩) len cap,.slice (some a) news.length c]).run P w =
   .ok (.slice (some ⟨w.heap.size,0,none⟩) (len+news.length) (grownCap w (len+news.length) cap e))
    (w.drew.alloc (.cells ((cs.toList.take (len*esz)).toArray++((List.range (news.length*esz)).map f).toArray++Builtin.zeroCells ez.cells (grownCap w (len+news.length) cap e - (len+news.length))) e)):=by
 obtain ⟨i,i1,rfl,rfl,i4⟩:=T.inf;have hmx:len+news.length≤140737488355328:=Nat.le_trans (by have:=Nat.mul_le_mul_left (len+news.length) h1;omega) hby;exact run_append_grow (P:=P) w t ty e i ez T.under i1 i4 ⟨b,0,none⟩ len cap (cs.toList.take (len*i.size)) (by simp;omega) (fun j v hv=>by
   rw [List.getElem?_take] at hv;split at hv
   ·rw [a4d]
    simp only [Array.getElem?_toList] at hv;simp [World.cell?,hb,hv]
   ·cases hv) a news.length c ((List.range (news.length*i.size)).map f) (by simp) (fun j v hv=>by
   rw [List.getElem?_map] at hv
   by_cases hj:j<news.length*i.size
   ·rw [List.getElem?_range hj] at hv;cases hv;exact hs.cell j hj
   ·rw [List.getElem?_eq_none (by simp;omega)] at hv;cases hv) hg (by omega) (growslice_fits hg hby)
structure d2q (P:Program)(w:World)(t u ty e esz eby:Nat)(ez sv:Value)(n:Nat)(f:Nat→Value):Prop where
 room:∀ (b len cap:Nat) (cs:Array Value),w.heap[b]? = some (.cells cs e (0,0))→len+n≤cap→len*esz+n*esz≤cs.size →
  (Builtin.append_ #[t,u] ty #[.slice (some ⟨b,0,none⟩) len cap,sv]).run P w=.ok (.slice (some ⟨b,0,none⟩) (len+n) cap) (w.setRow b (cs.toList.take (len*esz)++(List.range (n*esz)).map f++cs.toList.drop (len*esz+((List.range (n*esz)).map f).length)).toArray)
 grow:∀ (b len cap:Nat) (cs:Array Value),w.heap[b]? = some (.cells cs e (0,0))→len*esz≤cs.size→cap<len+n→(len+n)*eby≤140737488355328 →
  (Builtin.append_ #[t,u] ty #[.slice (some ⟨b,0,none⟩) len cap,sv]).run P w=.ok (.slice (some ⟨w.heap.size,0,none⟩) (len+n) (grownCap w (len+n) cap e))
   (w.drew.alloc (.cells ((cs.toList.take (len*esz)).toArray++((List.range (n*esz)).map f).toArray++Builtin.zeroCells ez.cells (grownCap w (len+n) cap e - (len+n))) e))
 none_:0<n→n*eby≤140737488355328→(Builtin.append_ #[t,u] ty #[.slice none 0 0,sv]).run P w=.ok (.slice (some ⟨w.heap.size,0,none⟩) n (grownCap w n 0 e))
   (w.drew.alloc (.cells (((List.range (n*esz)).map f).toArray++Builtin.zeroCells ez.cells (grownCap w n 0 e - n)) e))
 zero_:n=0→(Builtin.append_ #[t,u] ty #[.slice none 0 0,sv]).run P w=.ok (.slice none 0 0) w
theorem Rep.osl0 {O:Nat→Prop}{k g sz len cap b T:Nat}{cs:Array Value}{fz:Nat × Nat}(hr:ρ k g=some b)(hb:w.heap[b]? = some (.cells cs T fz))(hc:len≤cap)(hs:cap*sz=cs.size)(hm:cap≤maxLen) :
  Rep ρ O w (.osl k g sz 0 len) (.slice (some ⟨b,0,none⟩) len cap):=by
 have:=Rep.osl (O:=O) (ρ:=ρ) (k:=k) (g:=g) (i:=0) (sz:=sz) (len:=len) hr hb hc (by rw [Nat.zero_add];exact hs) (by rw [Nat.zero_add];exact hm)
 rwa [Nat.zero_mul] at this
structure b1u (C:Ctx)(F:Fra)(H:Hp)(ρ:Lk)(w:World)(n:Nat)(d:D)(H':Hp)(v:Value)(ρ':Lk)(w':World):Prop where
 mem:Mem C F ρ' H' w'
 ext:Ext ρ (Own F.X ρ H) w ρ' (Own F.X ρ' H') w'
 far:∀ k g',g'≠n→ρ' k g'=ρ k g'
 rep:Rep ρ' (Own F.X ρ' H') w' d v
theorem a2K {xs ys:Array Value}{q:Nat}(h:q<xs.size):(xs++ys).getD q undef=xs.getD q undef:=by
 simp only [Array.getD_eq_getD_getElem?];rw [Array.getElem?_append_left h]
theorem a9p {xs ys:Array Value}{q:Nat}(h:xs.size≤q):(xs++ys).getD q undef=ys.getD (q - xs.size) undef:=by
 simp only [Array.getD_eq_getD_getElem?];rw [Array.getElem?_append_right h]
theorem a6H {t e0 esz eby ty n k:Nat}{ez:Value}(T:c4O C.P t e0 esz eby ez){H1 H2:Hp}{e:Ent}{b len cap:Nat}(m:Mem C F ρ (H1++e::H2) w)(hr:ρ e.k e.g=some b)(hT:e.T=e0)(hsz:esz=e.sz)(hle:len≤e.es.length)
  {cs:Array Value} (hbk:w.heap[b]? = some (.cells cs e.T (0,0))) (hcs:cap*esz=cs.size) (hcap:cap≤maxLen) (fr:∀ k,ρ k n=none) (hlt:∀ e'∈H1++e::H2,e'.g≠n) {news:List D} {f:Nat→Value} {u:Nat} {sv:Value}
  (S:d2q C.P w t u ty e0 esz eby ez sv news.length f) (hs:c7h ρ (Own F.X ρ (H1++e::H2)) w esz news f) (hby:(len+news.length)*eby≤140737488355328) (h1:1≤eby) :
  ∃ v ρ' w',(Builtin.append_ #[t,u] ty #[.slice (some ⟨b,0,none⟩) len cap,sv]).run C.P w=.ok v w' ∧
   b1u C F (H1++e::H2) ρ w n (.osl k n esz 0 (len+news.length)) (⟨k,n,e0,esz,e.es.take len++news⟩::(H1++H2)) v ρ' w':=by
 subst hT hsz;obtain ⟨cs0,q1,q2⟩:=m.at (e:=e) (by simp) hr;rw [hbk] at q1;cases q1;have hlc:len*e.sz≤cs.size:=Nat.le_trans (Nat.mul_le_mul_right _ hle) q2.len;have hmx:len+news.length≤maxLen:=by
  have:=Nat.mul_le_mul_left (len+news.length) h1
  simp only [maxLen];omega
 have hlim:∀ q,q<len*e.sz→q<cs.size:=fun q hq=>by omega
 by_cases hroom:len+news.length≤cap
 ·have hfit:len*e.sz+news.length*e.sz≤cs.size:=by rw [← hcs,← Nat.add_mul];exact Nat.mul_le_mul_right _ hroom
  have run:=S.room b len cap cs hbk hroom hfit;generalize hcs':(cs.toList.take (len*e.sz)++(List.range (news.length*e.sz)).map f++cs.toList.drop (len*e.sz+((List.range (news.length*e.sz)).map f).length)).toArray=cs' at run;have hsz':cs'.size=cs.size:=by rw [← hcs'];simp;omega
  have get:∀ q,cs'[q]? = if q<len*e.sz then cs[q]? else if q<len*e.sz+news.length*e.sz then some (f (q - len*e.sz)) else cs[q]?:=fun q=>by
   rw [← hcs'];simp only [List.getElem?_toArray];rw [List.append_assoc];have hl1:(cs.toList.take (len*e.sz)).length=len*e.sz:=by simp;omega
   rcases Nat.lt_or_ge q (len*e.sz) with hq|hq
   ·rw [List.getElem?_append_left (by omega),if_pos hq,List.getElem?_take,if_pos hq];simp
   ·rw [List.getElem?_append_right (by omega),if_neg (by omega),hl1]
    rcases Nat.lt_or_ge (q - len*e.sz) (news.length*e.sz) with hq2|hq2
    ·rw [List.getElem?_append_left (by simp;omega),if_pos (by omega),List.getElem?_map,List.getElem?_range hq2];rfl
    ·rw [List.getElem?_append_right (by simp;omega),if_neg (by omega),List.getElem?_drop]
     simp only [List.length_map,List.length_range];rw [show len*e.sz+news.length*e.sz+(q - len*e.sz - news.length*e.sz)=q from by omega];simp
  have ho:a2j ρ (Own F.X ρ (H1++e::H2)) w ⟨e.k,e.g,e.T,e.sz,e.es.take len++news⟩ cs':=c2Q q2 hle hs
   (fun q hq=>by rw [Array.getD_eq_getD_getElem?,get,if_pos hq,← Array.getD_eq_getD_getElem?])
   (fun j hj=>by rw [Array.getD_eq_getD_getElem?,get,if_neg (by omega),if_pos (by omega),show len*e.sz+j - len*e.sz=j from by omega];rfl)
   (by rw [hsz',Nat.add_mul];exact hfit) (fun q v hv=>by
    rw [get] at hv;split at hv
    ·exact q2.one _ _ hv
    ·split at hv
     ·cases hv;exact hs.one _ (by omega)
     ·exact q2.one _ _ hv)
  obtain ⟨m1,x1⟩:=m.write (e':=⟨e.k,e.g,e.T,e.sz,e.es.take len++news⟩) hr hbk rfl rfl rfl hsz' ho;obtain ⟨m2,x2⟩:=m1.rename (e:=⟨e.k,e.g,e.T,e.sz,e.es.take len++news⟩) (k:=k) (n:=n) hr (fr k) (fun e' he'=>by
   rcases List.mem_append.1 he' with h|h
   ·exact hlt e' (by simp [h])
   ·rcases List.mem_cons.1 h with rfl|h
    ·exact hlt e (by simp)
    ·exact hlt e' (by simp [h]))
  rw [a8O hbk] at run;refine ⟨_,ρ.put k n b,_,run,?_⟩;refine ⟨m2,x1.trans x2,fun k' g' hg=>by unfold Lk.put;rw [if_neg fun h=>hg h.2],?_⟩;have hlt:b<w.heap.size:=(Array.getElem?_eq_some_iff.1 hbk).1;exact Rep.osl0 (b:=b) (T:=e.T) (cs:=cs') (fz:=(0,0)) (Lk.put_same _ _ _ _) (by rw [a2p _ _ _ _ _ hlt,if_pos rfl]) hroom (by rw [hsz',← hcs]) hcap
 ·have run:=S.grow b len cap cs hbk hlc (Nat.lt_of_not_le hroom) hby
  generalize hcap':grownCap w (len+news.length) cap e.T=cap' at run;have hge:len+news.length≤cap':=by rw [← hcap'];exact grownCap_ge ..
  have hmx':cap'≤maxLen:=by rw [← hcap'];exact grownCap_le_maxLen _ _ _ _ hmx
  generalize hcs':(cs.toList.take (len*e.sz)).toArray++((List.range (news.length*e.sz)).map f).toArray++Builtin.zeroCells ez.cells (cap' - (len+news.length))=cs' at run;have s1:(cs.toList.take (len*e.sz)).toArray.size=len*e.sz:=by simp;omega
  have s2:((List.range (news.length*e.sz)).map f).toArray.size=news.length*e.sz:=by simp
  have hsz':cs'.size=cap'*e.sz:=by
   rw [← hcs',Array.size_append,Array.size_append,s1,s2,size_zeroCells,T.zs,← Nat.add_mul,← Nat.add_mul]
   congr 1;omega
  obtain ⟨m0,hO0⟩:=m.sub (H':=H1++H2) (List.Sublist.append (List.Sublist.refl _) (List.sublist_cons_self _ _));have x0:Ext ρ (Own F.X ρ (H1++e::H2)) w ρ (Own F.X ρ (H1++H2)) w.drew :=
   ⟨Nat.le_refl _,fun _ _ _ h=>h,fun b' _ h=>⟨fun h'=>h (hO0 b' h'),rfl⟩,fun _ cs _ _ h=>⟨cs,_,h,rfl⟩⟩
  have ho:a2j ρ (Own F.X ρ (H1++H2)) w.drew ⟨k,n,e.T,e.sz,e.es.take len++news⟩ cs':=by
   have hlow:∀ q,q<len*e.sz→cs'.getD q undef=cs.getD q undef:=fun q hq=>by
    rw [← hcs',a2K (by rw [Array.size_append];omega),a2K (by omega)];simp only [Array.getD_eq_getD_getElem?,List.getElem?_toArray,List.getElem?_take,if_pos hq];simp
   have hmid:∀ j,j<news.length*e.sz→cs'.getD (len*e.sz+j) undef=f j:=fun j hj=>by
    rw [← hcs',a2K (by rw [Array.size_append];omega),a9p (by omega),s1,show len*e.sz+j - len*e.sz=j from by omega];simp [Array.getD_eq_getD_getElem?,hj]
   refine (c2Q q2 hle hs hlow hmid (by rw [hsz'];exact Nat.mul_le_mul_right _ hge) fun q v hv=>?_).mono x0;rw [← hcs'] at hv;rcases Nat.lt_or_ge q (len*e.sz+news.length*e.sz) with hq|hq
   ·rw [Array.getElem?_append_left (by rw [Array.size_append];omega)] at hv
    rcases Nat.lt_or_ge q (len*e.sz) with hq2|hq2
    ·rw [Array.getElem?_append_left (by omega)] at hv
     simp only [List.getElem?_toArray,List.getElem?_take,if_pos hq2] at hv;exact q2.one q v (by simpa using hv)
    ·rw [Array.getElem?_append_right (by omega),s1] at hv
     simp only [List.getElem?_toArray,List.getElem?_map] at hv;rw [List.getElem?_range (by omega)] at hv;cases hv;exact hs.one _ (by omega)
   ·rw [Array.getElem?_append_right (by rw [Array.size_append];omega)] at hv
    exact a6d T.zo _ _ v hv
  obtain ⟨m1,x1⟩:=m0.drew.alloc ⟨k,n,e.T,e.sz,e.es.take len++news⟩ cs' (fr k) (fun e' he' h=>hlt e' (by rcases List.mem_append.1 he' with h|h<;>simp [h]) h.2) ho;refine ⟨_,_,_,run,m1,x0.trans x1,fun k' g' hg=>by unfold Lk.put;rw [if_neg fun h=>hg h.2],?_⟩;exact Rep.osl0 (b:=w.heap.size) (T:=e.T) (cs:=cs') (fz:=(0,0)) (Lk.put_same _ _ _ _) (by rw [a0v];exact if_pos rfl) hge hsz'.symm hmx'
theorem a6i {t e0 esz eby ty:Nat}{P:Program}{O:Nat→Prop}{ez:Value}(T:c4O P t e0 esz eby ez)(h1:1≤eby){news:List D}{a:Addr}{c:Nat}{f:Nat→Value}(hs:Src ρ O w esz news a f) :
  d2q P w t t ty e0 esz eby ez (.slice (some a) news.length c) news.length f where
 room b len cap cs hbk hroom hfit:=by
  obtain ⟨i,i1,rfl,i3,i4⟩:=T.inf;exact run_append_room (P:=P) w t ty e0 i T.under i1 b len cap cs hbk a news.length c ((List.range (news.length*i.size)).map f) (by simp) (fun j v hv=>by
   rw [List.getElem?_map] at hv
   by_cases hj:j<news.length*i.size
   ·rw [List.getElem?_range hj] at hv;cases hv;exact hs.cell j hj
   ·rw [List.getElem?_eq_none (by simp;omega)] at hv;cases hv) (fun u hu=>by
    rw [c4p];obtain ⟨j,hj,rfl⟩:=List.mem_map.1 hu;exact hs.one j (by simpa using hj)) hroom (by simp;exact hfit)
 grow b len cap cs hb hlc hg hby:=b2W (P:=P) (ty:=ty) (c:=c) T hb hlc hs hg hby h1
 none_ h0 hby:=by
  obtain ⟨i,i1,rfl,rfl,i4⟩:=T.inf;have hmx:news.length≤maxLen:=by
   have:=Nat.mul_le_mul_left news.length h1
   simp only [maxLen];omega
  exact run_append_nil (P:=P) w t ty e0 i ez T.under i1 i4 a news.length c ((List.range (news.length*i.size)).map f) (by simp) (fun j v hv=>by
   rw [List.getElem?_map] at hv
   by_cases hj:j<news.length*i.size
   ·rw [List.getElem?_range hj] at hv;cases hv;exact hs.cell j hj
   ·rw [List.getElem?_eq_none (by simp;omega)] at hv;cases hv) h0 (by simp only [maxLen] at hmx;omega) (by omega)
 zero_ h0:=by
  obtain ⟨i,i1,rfl,rfl,i4⟩:=T.inf;simp [Builtin.append_,a0f T.under,sizeOf,typeInfo,i1,Builtin.lenOf,Builtin.firstCells,loadCells,loadCellsFrom,h0]
theorem append_nil {t e0 esz eby ty n k:Nat}{ez:Value}(T:c4O C.P t e0 esz eby ez)(m:Mem C F ρ H w)(fr:∀ k,ρ k n=none)(hlt:∀ e'∈H,e'.g≠n){news:List D}{f:Nat→Value}{u:Nat}{sv:Value}
  (S:d2q C.P w t u ty e0 esz eby ez sv news.length f) (hs:c7h ρ (Own F.X ρ H) w esz news f) (hby:news.length*eby≤140737488355328) (h1:1≤eby) :
  ∃ v ρ' w',(Builtin.append_ #[t,u] ty #[.slice none 0 0,sv]).run C.P w=.ok v w' ∧
   b1u C F H ρ w n (.osl k n esz 0 news.length) (⟨k,n,e0,esz,news⟩::H) v ρ' w':=by
 rcases Nat.eq_zero_or_pos news.length with h0|h0
 ·have hn:=List.eq_nil_of_length_eq_zero h0
  subst hn;obtain ⟨m1,hO⟩:=m.ghost (k:=k) (n:=n) (T:=e0) (sz:=esz) (fr k);exact ⟨.slice none 0 0,ρ,w,S.zero_ rfl,m1,by rw [hO];exact .refl _ _ _,fun _ _ _=>rfl,.onil _ _ _⟩
 ·have hmx:news.length≤maxLen:=by
   have:=Nat.mul_le_mul_left news.length h1
   simp only [maxLen];omega
  have run:=S.none_ h0 hby;generalize hcap':grownCap w news.length 0 e0=cap' at run;have hge:news.length≤cap':=by rw [← hcap'];exact grownCap_ge ..
  have hmx':cap'≤maxLen:=by rw [← hcap'];exact grownCap_le_maxLen _ _ _ _ hmx
  generalize hcs':((List.range (news.length*esz)).map f).toArray++Builtin.zeroCells ez.cells (cap' - news.length)=cs' at run;have s2:((List.range (news.length*esz)).map f).toArray.size=news.length*esz:=by simp
  have hsz':cs'.size=cap'*esz:=by
   rw [← hcs',Array.size_append,s2,size_zeroCells,T.zs,← Nat.add_mul]
   congr 1;omega
  have hmid:∀ j,j<news.length*esz→cs'.getD j undef=f j:=fun j hj=>by
   rw [← hcs',a2K (by omega)];simp [Array.getD_eq_getD_getElem?,hj]
  have ho:a2j ρ (Own F.X ρ H) w.drew ⟨k,n,e0,esz,news⟩ cs':=by
   refine a2j.mono ⟨?_,hs.siz,fun q v hv=>?_,fun q d j c hd hc=>?_⟩ (Ext.drew ρ (Own F.X ρ H) w)
   ·dsimp only;rw [hsz'];exact Nat.mul_le_mul_right _ hge
   ·rw [← hcs'] at hv
    rcases Nat.lt_or_ge q (news.length*esz) with hq|hq
    ·rw [Array.getElem?_append_left (by omega)] at hv
     simp only [List.getElem?_toArray,List.getElem?_map] at hv;rw [List.getElem?_range hq] at hv;cases hv;exact hs.one _ hq
    ·rw [Array.getElem?_append_right (by omega)] at hv
     exact a6d T.zo _ _ v hv
   ·dsimp only at hd ⊢
    have hj:j<esz:=by rw [← hs.siz q d hd];exact (List.getElem?_eq_some_iff.1 hc).1
    have hq:q<news.length:=(List.getElem?_eq_some_iff.1 hd).1;rw [hmid]
    ·exact hs.rep q d j c hd hc
    ·have:(q+1)*esz≤news.length*esz:=Nat.mul_le_mul_right _ hq
     rw [Nat.add_mul] at this;omega
  obtain ⟨m1,x1⟩:=m.drew.alloc ⟨k,n,e0,esz,news⟩ cs' (fr k) (fun e' he' h=>hlt e' he' h.2) ho;refine ⟨_,_,_,run,m1,(Ext.drew _ _ _).trans x1,fun k' g' hg=>by unfold Lk.put;rw [if_neg fun h=>hg h.2],?_⟩;exact Rep.osl0 (b:=w.heap.size) (T:=e0) (cs:=cs') (fz:=(0,0)) (Lk.put_same _ _ _ _) (by rw [a0v];exact if_pos rfl) hge hsz'.symm hmx'
theorem a7M {tt:Nat→Option a0k}{o:Oper}{g:Operand→D}{ev:Operand→Value}{n k:Nat}{d:D}{H':Hp}{p:Prop}(htt:Tab C.P tt)(m:Mem C F ρ H w)(fr:∀ k,ρ k n=none)(hlt:∀ e∈H,e.g≠n)
  (hg:∀ x,Rep ρ (Own F.X ρ H) w (g x) (ev x)) (h:evA tt H n k g o.op=some (d,H',p)) (hp:p) :
  ∃ v ρ' w',(execOp ev o).run C.P w=.ok (.value v) w'∧b1u C F H ρ w n d H' v ρ' w':=by
 unfold evA at h;split at h<;>first|(cases h;done)|skip
 rename_i args tys ho;split at h<;>first|(cases h;done)|skip
 rename_i s x hargs;split at h<;>first|(cases h;done)|skip
 rename_i t t' htys;split at h<;>first|(cases h;done)|skip
 rename_i htt';obtain rfl:=Nat.eq_of_beq_eq_true htt';split at h<;>first|(cases h;done)|skip
 rename_i i hi;split at h<;>first|(cases h;done)|skip
 rename_i e esz eby ez hk;split at h<;>first|(cases h;done)|skip
 rename_i news q hsrc;obtain ⟨k1,⟨inf,k2,k3,k4,k5⟩,k6,k7⟩:=a0t (htt _ _ hi) hk;have T:c4O C.P t e esz eby ez:=⟨k1,⟨inf,k2,k3,k4,k5⟩,k6,k7⟩
 have hargs':args = #[s,x]:=by rw [← Array.toArray_toList (xs:=args),hargs]
 have htys':tys = #[t,t]:=by rw [← Array.toArray_toList (xs:=tys),htys]
 subst hargs' htys';have fin:∀ v1 v2,ev s=v1→ev x=v2→(∃ v ρ' w',(Builtin.append_ #[t,t] o.type #[v1,v2]).run C.P w=.ok v w'∧b1u C F H ρ w n d H' v ρ' w') →
   ∃ v ρ' w',(execOp ev o).run C.P w=.ok (.value v) w'∧b1u C F H ρ w n d H' v ρ' w':=by
  rintro v1 v2 h1 h2 ⟨v,ρ',w',h3,h4⟩;refine ⟨v,ρ',w',?_,h4⟩;unfold execOp;simp only [ho,resolve,invoke,builtin,Sem.run_bind,Sem.run_pure,Result.andThen_ok,List.map_toArray,List.map_cons,List.map_nil,h1,h2,h3]
 have hx:=hg x;have hsr:=hg s;generalize hvx:ev x=vx at hx;generalize hvs:ev s=vs at hsr;refine fin vs vx hvs hvx ?_;split at h<;>first|(cases h;done)|skip
 ·rename_i k0 g1 sz len hgs
  split at h<;>first|(cases h;done)|skip
  rename_i e1 he1;simp only [Option.some.injEq,Prod.mk.injEq] at h;obtain ⟨rfl,rfl,rfl⟩:=h;obtain ⟨hq,rfl,rfl,rfl,rfl,hle,hby,hb1,hs1⟩:=hp;obtain ⟨hm,hke⟩:=Hp.get_mem he1;obtain ⟨H1,H2,a1,_,a3⟩:=Hp.set_split e1 he1;rw [hgs] at hsr;rw [a3];rcases c4D m hsrc hq hx with ⟨rfl,rfl⟩|⟨a,c,f,rfl,hc,hs⟩
  ·
   simp only [List.length_nil,Nat.add_zero,List.append_nil];cases hsr with
   | onil =>
    obtain ⟨m0,hO0⟩:=m.sub (H':=H1++H2) (by rw [a1];exact List.Sublist.append (List.Sublist.refl _) (List.sublist_cons_self _ _));obtain ⟨m1,hO⟩:=m0.ghost (k:=k) (n:=n) (T:=e1.T) (sz:=e1.sz) (fr k);refine ⟨_,ρ,w,a3l k1 k2 (Nat.le_refl _),by simpa using m1,?_,fun _ _ _=>rfl,.onil _ _ _⟩;simp only [List.take_zero];rw [hO];exact ⟨Nat.le_refl _,fun _ _ _ h=>h,fun b' _ h=>⟨fun h'=>h (hO0 b' h'),rfl⟩,fun _ cs _ _ h=>⟨cs,_,h,rfl⟩⟩
   | osl hr hb hc hs hmx =>
    rename_i cap b T' cs fz;rw [← hke] at hr;obtain ⟨cs0,q1,q2⟩:=m.at hm hr;rw [hb] at q1;cases q1;rw [a1] at m;have q3:a2j ρ (Own F.X ρ (H1++e1::H2)) w ⟨e1.k,e1.g,e1.T,e1.sz,e1.es.take len⟩ cs:=by
     rw [← a1];refine ⟨by dsimp only;simp only [List.length_take];exact Nat.le_trans (Nat.mul_le_mul_right _ (Nat.min_le_right _ _)) q2.len,fun i d hd=>?_,q2.one,fun i d j c hd hc=>?_⟩
     ·dsimp only at hd;rw [List.getElem?_take] at hd;split at hd
      ·exact q2.siz i d hd
      ·cases hd
     ·dsimp only at hd ⊢;rw [List.getElem?_take] at hd;split at hd
      ·exact q2.rep i d j c hd hc
      ·cases hd
    obtain ⟨m1,x1⟩:=m.write (e':=⟨e1.k,e1.g,e1.T,e1.sz,e1.es.take len⟩) hr hb rfl rfl rfl rfl q3;have hsame:World.setBlk w b cs e1.T=w:=by
     unfold World.setBlk
     have:w.heap.setIfInBounds b (.cells cs e1.T (0,0))=w.heap:=by
      apply Array.ext_getElem?;intro q;rw [Array.getElem?_setIfInBounds]
      by_cases hq:b=q
      ·subst hq;rw [if_pos rfl,if_pos (Array.getElem?_eq_some_iff.1 hb).1,hb]
      ·rw [if_neg hq]
     rw [this]
    rw [hsame] at m1 x1;obtain ⟨m2,x2⟩:=m1.rename (e:=⟨e1.k,e1.g,e1.T,e1.sz,e1.es.take len⟩) (k:=k) (n:=n) hr (fr k) (fun e' he'=>by
     rcases List.mem_append.1 he' with h|h
     ·exact hlt e' (by rw [a1];simp [h])
     ·rcases List.mem_cons.1 h with rfl|h
      ·exact hlt e1 hm
      ·exact hlt e' (by rw [a1];simp [h]))
    refine ⟨_,_,w,a3l k1 k2 hc,m2,by rw [a1];exact x1.trans x2,fun k' g' hg=>by unfold Lk.put;rw [if_neg fun h=>hg h.2],?_⟩;have fin:=Rep.osl (ρ:=ρ.put k n b) (O:=Own F.X (ρ.put k n b) (⟨k,n,e1.T,e1.sz,e1.es.take len⟩::(H1++H2))) (k:=k) (g:=n) (i:=0) (Lk.put_same _ _ _ _) hb hc hs hmx;exact fin
  ·cases hsr with
   | onil =>
    obtain ⟨m0,hO0⟩:=m.sub (H':=H1++H2) (by rw [a1];exact List.Sublist.append (List.Sublist.refl _) (List.sublist_cons_self _ _));have x0:Ext ρ (Own F.X ρ H) w ρ (Own F.X ρ (H1++H2)) w:=⟨Nat.le_refl _,fun _ _ _ h=>h,fun b' _ h=>⟨fun h'=>h (hO0 b' h'),rfl⟩,fun _ cs _ _ h=>⟨cs,_,h,rfl⟩⟩
    have hs':c7h ρ (Own F.X ρ (H1++H2)) w e1.sz news f:=⟨hs.one,hs.siz,fun i e j d h1 h2=>(hs.rep i e j d h1 h2).mono x0⟩
    obtain ⟨v,ρ',w',r1,r2⟩:=append_nil (ty:=o.type) (k:=k) T m0 fr (fun e' he'=>hlt e' (by rw [a1];rcases List.mem_append.1 he' with h|h<;>simp [h])) (a6i (c:=c) T hb1 hs) hs' (by simpa using hby) hb1;refine ⟨v,ρ',w',r1,?_⟩;simp only [Nat.zero_add,List.take_zero,List.nil_append];exact ⟨r2.mem,x0.trans r2.ext,r2.far,r2.rep⟩
   | osl hr hb hc' hcs hmx =>
    rename_i cap b T' cs fz;rw [← hke] at hr;obtain ⟨cs0,q1,q2⟩:=m.at hm hr;rw [hb] at q1;cases q1;rw [a1] at m hlt hs;obtain ⟨v,ρ',w',r1,r2⟩:=a6H (ty:=o.type) (k:=k) T m hr rfl rfl hle hb (by simpa using hcs) (by simpa using hmx) fr hlt (a6i (c:=c) T hb1 hs) hs.srcv hby hb1;rw [a1];refine ⟨v,ρ',w',?_,r2⟩;simpa using r1
 ·rename_i hgs
  simp only [Option.some.injEq,Prod.mk.injEq] at h;obtain ⟨rfl,rfl,rfl⟩:=h;obtain ⟨hq,hby,hb1,hs1⟩:=hp;rw [hgs] at hsr;cases hsr;rcases c4D m hsrc hq hx with ⟨rfl,rfl⟩|⟨a,c,f,rfl,hc,hs⟩
  ·obtain ⟨m1,hO⟩:=m.ghost (k:=k) (n:=n) (T:=e) (sz:=esz) (fr k)
   exact ⟨_,ρ,w,a3l k1 k2 (Nat.le_refl _),m1,by rw [hO];exact .refl _ _ _,fun _ _ _=>rfl,.onil _ _ _⟩
  ·exact append_nil (ty:=o.type) (k:=k) T m fr hlt (a6i (c:=c) T hb1 hs) hs.srcv hby hb1
end
section
variable {C:Ctx} {F:Fra} {s:St} {ops:Array Oper} {o:Oper} {os:List Oper} {K:St→Prop}
theorem Hp.del_sub:∀ {H:Hp} {k:Nat} {e:Ent},e∈Hp.del H k→e∈H
 | e0::r,k,e,h=>by
  simp only [Hp.del] at h;split at h
  ·exact List.mem_cons_of_mem _ h
  ·rcases List.mem_cons.1 h with rfl|h
   ·exact List.mem_cons_self ..
   ·exact List.mem_cons_of_mem _ (Hp.del_sub h)
theorem c5r {tt:Nat→Option a0k}{H:Hp}{n k:Nat}{g:Operand→D}{op:Op}{d:D}{H':Hp}{p:Prop}(h:evA tt H n k g op=some (d,H',p))(hl:∀ e∈H,e.g<n):∀ e∈H',e.g<n+1:=by
 unfold evA at h
 (repeat' split at h)<;>first|(cases h;done)|skip
 ·cases h
  intro e he;rcases List.mem_cons.1 he with rfl|he
  ·exact Nat.lt_succ_self _
  ·exact Nat.lt_succ_of_lt (hl e (Hp.del_sub he))
 ·cases h
  intro e he;rcases List.mem_cons.1 he with rfl|he
  ·exact Nat.lt_succ_self _
  ·exact Nat.lt_succ_of_lt (hl e he)
theorem OkL.app' {tt:Nat→Option a0k}(k:Nat)(htt:Tab C.P tt){d:D}{H':Hp}{p:Prop}(hw:a0N ops s.env o=some true)(he:evA tt s.H s.n k (a1g s.env) o.op=some (d,H',p))(hp:p)
  (h:OkL C F ops os ⟨a1N s.env o.dst d,H',s.n+1⟩ K):OkL C F ops (o::os) s K :=
 OkL.step hw (fun ρ a w hs=>by
  obtain ⟨v,ρ',w',h1,h2⟩:=a7M htt hs.mem (fun k=>hs.fresh k _ (Nat.le_refl _)) (fun e he=>Nat.ne_of_lt (hs.gen e he)) (a0S hs.env) he hp;exact ⟨v,ρ',w',.inl h1,⟨h2.mem,h2.ext,fun k g hg=>by rw [h2.far k g (by omega)];exact hs.fresh k g (by omega),h2.rep⟩,c5r he hs.gen⟩) h
end
def a4k (s:ByteArray):List D:=s.data.toList.map fun b=>.prim (.int .u8 (b.toNat:Int))
theorem a0X (s:ByteArray):(a4k s).length=s.size:=by
 unfold a4k;rw [List.length_map,Array.length_toList];rfl
def a5G (s:ByteArray)(j:Nat):Value:=.int .u8 ((s.data.toList.getD j 0).toNat:Int)
theorem a3p (s:ByteArray):(List.range (s.size*1)).map (a5G s)=Lib.strCells s:=by
 refine List.ext_getElem? fun j=>?_
 have hs:s.data.toList.length=s.size:=by rw [Array.length_toList];rfl
 rw [Nat.mul_one,List.getElem?_map,Lib.strCells,List.getElem?_map];rcases Nat.lt_or_ge j s.size with h|h
 ·rw [List.getElem?_range h,List.getElem?_eq_getElem (by omega)]
  simp [a5G,List.getD_eq_getElem?_getD,List.getElem?_eq_getElem (show j<s.data.toList.length by omega)]
 ·rw [List.getElem?_eq_none (by simp;omega),List.getElem?_eq_none (by omega)];rfl
section
variable {C:Ctx} {F:Fra} {ρ:Lk} {H:Hp} {w:World}
theorem a6l {O:Nat→Prop}(s:ByteArray):c7h ρ O w 1 (a4k s) (a5G s) where
 one _ _:=rfl
 siz i e h:=by
  unfold a4k at h;rw [List.getElem?_map] at h;obtain ⟨b,_,rfl⟩:=Option.map_eq_some_iff.1 h;rfl
 rep i e j d h1 h2:=by
  unfold a4k at h1;rw [List.getElem?_map] at h1;obtain ⟨b,hb,rfl⟩:=Option.map_eq_some_iff.1 h1;rcases j with _|j
  ·cases h2
   have:a5G s (i*1+0)=.int .u8 (b.toNat:Int):=by
    unfold a5G;rw [Nat.mul_one,Nat.add_zero,List.getD_eq_getElem?_getD,hb];rfl
   rw [this];exact .prim _
  ·simp [D.cells] at h2
theorem a7L {P:Program}{t u ty e0:Nat}(T:c4O P t e0 1 1 (.int .u8 0))(hu:P.underlying u=some .string)(s:ByteArray) :
  d2q P w t u ty e0 1 1 (.int .u8 0) (.string s) s.size (a5G s) where
 room b len cap cs hbk hroom hfit:=by
  obtain ⟨i,i1,i2,i3,i4⟩:=T.inf;rw [a3p,Lib.strCells_length,Nat.mul_one];exact Lib.run_append_room_string w t u ty e0 i T.under hu i1 i2 b len cap cs hbk s hroom (by omega)
 grow b len cap cs hb hlc hg hby:=by
  obtain ⟨i,i1,i2,i3,i4⟩:=T.inf;rw [a3p];rw [Nat.mul_one] at hlc ⊢;exact Lib.run_append_grow_string w t u ty e0 i (.int .u8 0) T.under hu i1 i4 ⟨b,0,none⟩ len cap (cs.toList.take len) (by rw [i2];simp;omega) (fun j v hv=>by
   rw [List.getElem?_take] at hv;split at hv
   ·rw [a4d]
    simp only [Array.getElem?_toList] at hv;simp [World.cell?,hb,hv]
   ·cases hv) s hg (by omega) (by rw [i3];exact growslice_fits hg (by omega))
 none_ h0 hby:=by
  obtain ⟨i,i1,i2,i3,i4⟩:=T.inf;have hr:=run_append_nil_string (P:=P) w t u ty e0 i (.int .u8 0) T.under hu i1 i4 s (by omega) (by omega) (by rw [i3];omega);have e1:(s.data.map fun b=>Value.int .u8 b.toNat)=(Lib.strCells s).toArray:=by
   apply Array.ext';simp [Lib.strCells]
  rw [a3p,← e1];exact hr
 zero_ h0:=by
  obtain ⟨i,i1,i2,i3,i4⟩:=T.inf;have hf:=Lib.run_firstCells_string (P:=P) w 1 s;rw [h0] at hf;simp [Builtin.append_,a0f T.under,a0f hu,sizeOf,typeInfo,i1,i2,Builtin.lenOf,h0,hf]
def c7l (tt:Nat→Option a0k)(H:Hp)(n k:Nat)(g:Operand→D):Op→Option (D × Hp × Prop)
 | .call ⟨.builtin .append,args,tys⟩=>match args.toList with
  | [s,x]=>match tys.toList with
   | [t,t']=>match tt t' with
    | some i'=>match i'.ti with
     | .string=>match tt t with
      | some i=>match i.ti with
       | .slice e esz eby ez=>match g x with
        | .prim (.string str)=>match g s with
         | .osl k1 g1 sz 0 len=>match Hp.get H k1 with
          | some e1=>some (.osl k n 1 0 (len+str.size),⟨k,n,e,1,e1.es.take len++a4k str⟩::Hp.del H k1,
            esz=1∧eby=1∧ez=.int .u8 0∧g1=e1.g∧sz=e1.sz∧sz=1∧e1.T=e∧len≤e1.es.length∧len+str.size≤140737488355328)
          | none=>none
         | .prim (.slice none 0 0)=>some (.osl k n 1 0 str.size,⟨k,n,e,1,a4k str⟩::H,esz=1∧eby=1∧ez=.int .u8 0∧str.size≤140737488355328)
         | _=>none
        | _=>none
       | _=>none
      | none=>none
     | _=>none
    | none=>none
   | _=>none
  | _=>none
 | _=>none
theorem b5A {tt:Nat→Option a0k}{o:Oper}{g:Operand→D}{ev:Operand→Value}{n k:Nat}{d:D}{H':Hp}{p:Prop}(htt:Tab C.P tt)(m:Mem C F ρ H w)(fr:∀ k,ρ k n=none)(hlt:∀ e∈H,e.g≠n)
  (hg:∀ x,Rep ρ (Own F.X ρ H) w (g x) (ev x)) (h:c7l tt H n k g o.op=some (d,H',p)) (hp:p) :
  ∃ v ρ' w',(execOp ev o).run C.P w=.ok (.value v) w'∧b1u C F H ρ w n d H' v ρ' w':=by
 unfold c7l at h;split at h<;>first|(cases h;done)|skip
 rename_i args tys ho;split at h<;>first|(cases h;done)|skip
 rename_i s x hargs;split at h<;>first|(cases h;done)|skip
 rename_i t t' htys;split at h<;>first|(cases h;done)|skip
 rename_i i' hi';split at h<;>first|(cases h;done)|skip
 rename_i hk';split at h<;>first|(cases h;done)|skip
 rename_i i hi;split at h<;>first|(cases h;done)|skip
 rename_i e esz eby ez hk;split at h<;>first|(cases h;done)|skip
 rename_i str hgx;have hu:=a1G (htt _ _ hi') hk';obtain ⟨k1,⟨inf,k2,k3,k4,k5⟩,k6,k7⟩:=a0t (htt _ _ hi) hk;have T0:c4O C.P t e esz eby ez:=⟨k1,⟨inf,k2,k3,k4,k5⟩,k6,k7⟩
 have hargs':args = #[s,x]:=by rw [← Array.toArray_toList (xs:=args),hargs]
 have htys':tys = #[t,t']:=by rw [← Array.toArray_toList (xs:=tys),htys]
 subst hargs' htys';have fin:∀ v1 v2,ev s=v1→ev x=v2→(∃ v ρ' w',(Builtin.append_ #[t,t'] o.type #[v1,v2]).run C.P w=.ok v w'∧b1u C F H ρ w n d H' v ρ' w') →
   ∃ v ρ' w',(execOp ev o).run C.P w=.ok (.value v) w'∧b1u C F H ρ w n d H' v ρ' w':=by
  rintro v1 v2 h1 h2 ⟨v,ρ',w',h3,h4⟩;refine ⟨v,ρ',w',?_,h4⟩;unfold execOp;simp only [ho,resolve,invoke,builtin,Sem.run_bind,Sem.run_pure,Result.andThen_ok,List.map_toArray,List.map_cons,List.map_nil,h1,h2,h3]
 have hx:=hg x;have hsr:=hg s;generalize hvx:ev x=vx at hx;generalize hvs:ev s=vs at hsr;refine fin vs vx hvs hvx ?_;rw [hgx] at hx;cases hx;split at h<;>first|(cases h;done)|skip
 ·rename_i k0 g1 sz len hgs
  split at h<;>first|(cases h;done)|skip
  rename_i e1 he1;simp only [Option.some.injEq,Prod.mk.injEq] at h;obtain ⟨rfl,rfl,rfl⟩:=h;obtain ⟨rfl,rfl,rfl,rfl,q1,rfl,rfl,hle,hby⟩:=hp;have T:=T0;obtain ⟨hm,hke⟩:=Hp.get_mem he1;obtain ⟨H1,H2,a1,_,a3⟩:=Hp.set_split e1 he1;rw [hgs] at hsr;rw [a3];have S:=a7L (w:=w) (ty:=o.type) T hu str;cases hsr with
  | onil =>
   obtain ⟨m0,hO0⟩:=m.sub (H':=H1++H2) (by rw [a1];exact List.Sublist.append (List.Sublist.refl _) (List.sublist_cons_self _ _));have x0:Ext ρ (Own F.X ρ H) w ρ (Own F.X ρ (H1++H2)) w:=⟨Nat.le_refl _,fun _ _ _ h=>h,fun b' _ h=>⟨fun h'=>h (hO0 b' h'),rfl⟩,fun _ cs _ _ h=>⟨cs,_,h,rfl⟩⟩
   obtain ⟨v,ρ',w',r1,r2⟩:=append_nil (ty:=o.type) (k:=k) (news:=a4k str) (f:=a5G str) T m0 fr (fun e' he'=>hlt e' (by rw [a1];rcases List.mem_append.1 he' with h|h<;>simp [h])) (by rw [a0X];exact S) (a6l str) (by rw [a0X];omega) (Nat.le_refl _);refine ⟨v,ρ',w',r1,?_⟩;simp only [Nat.zero_add,List.take_zero,List.nil_append];rw [a0X] at r2;exact ⟨r2.mem,x0.trans r2.ext,r2.far,r2.rep⟩
  | osl hr hb hc' hcs hmx =>
   rename_i cap b T' cs fz;rw [← hke] at hr;obtain ⟨cs0,q2,q3⟩:=m.at hm hr;rw [hb] at q2;cases q2;rw [a1] at m hlt;obtain ⟨v,ρ',w',r1,r2⟩:=a6H (ty:=o.type) (k:=k) (news:=a4k str) (f:=a5G str) T m hr rfl q1 hle hb (by simpa using hcs) (by simpa using hmx) fr hlt (by rw [a0X];exact S) (a6l str) (by rw [a0X];omega) (Nat.le_refl _);rw [a1];refine ⟨v,ρ',w',?_,?_⟩
   ·simpa using r1
   ·rw [a0X] at r2;exact r2
 ·rename_i hgs
  simp only [Option.some.injEq,Prod.mk.injEq] at h;obtain ⟨rfl,rfl,rfl⟩:=h;obtain ⟨rfl,rfl,rfl,hby⟩:=hp;have T:=T0;rw [hgs] at hsr;cases hsr;have S:=a7L (w:=w) (ty:=o.type) T hu str;obtain ⟨v,ρ',w',r1,r2⟩:=append_nil (ty:=o.type) (k:=k) (news:=a4k str) (f:=a5G str) T m fr hlt (by rw [a0X];exact S) (a6l str) (by rw [a0X];omega) (Nat.le_refl _);rw [a0X] at r2;exact ⟨v,ρ',w',r1,r2⟩
end
section
variable {C:Ctx} {F:Fra} {s:St} {ops:Array Oper} {o:Oper} {os:List Oper} {K:St→Prop}
theorem c1h {tt:Nat→Option a0k}{H:Hp}{n k:Nat}{g:Operand→D}{op:Op}{d:D}{H':Hp}{p:Prop}(h:c7l tt H n k g op=some (d,H',p))(hl:∀ e∈H,e.g<n):∀ e∈H',e.g<n+1:=by
 unfold c7l at h
 (repeat' split at h)<;>first|(cases h;done)|skip
 ·cases h
  intro e he;rcases List.mem_cons.1 he with rfl|he
  ·exact Nat.lt_succ_self _
  ·exact Nat.lt_succ_of_lt (hl e (Hp.del_sub he))
 ·cases h
  intro e he;rcases List.mem_cons.1 he with rfl|he
  ·exact Nat.lt_succ_self _
  ·exact Nat.lt_succ_of_lt (hl e he)
theorem OkL.appS {tt:Nat→Option a0k}(k:Nat)(htt:Tab C.P tt){d:D}{H':Hp}{p:Prop}(hw:a0N ops s.env o=some true)(he:c7l tt s.H s.n k (a1g s.env) o.op=some (d,H',p))(hp:p)
  (h:OkL C F ops os ⟨a1N s.env o.dst d,H',s.n+1⟩ K):OkL C F ops (o::os) s K :=
 OkL.step hw (fun ρ a w hs=>by
  obtain ⟨v,ρ',w',h1,h2⟩:=b5A htt hs.mem (fun k=>hs.fresh k _ (Nat.le_refl _)) (fun e he=>Nat.ne_of_lt (hs.gen e he)) (a0S hs.env) he hp;exact ⟨v,ρ',w',.inl h1,⟨h2.mem,h2.ext,fun k g hg=>by rw [h2.far k g (by omega)];exact hs.fresh k g (by omega),h2.rep⟩,c1h he hs.gen⟩) h
end
inductive XI where
 | map (key elem:Nat) (zero:Value)
 | strs (n:Nat)
def a4D (P:Program):Nat→List Field→Bool
 | _,[]=>true
 | i,f::fs=>(f.name != "_")&&Nat.beq f.offset i&&(match P.underlying f.type with|some .string=>true|_=>false)&&a4D P (i+1) fs
def b3W (P:Program)(t:Nat):Option XI:=match P.underlying t with
 | some (.map k e)=>match P.underlying k with
  | some .string=>match P.info? e with
   | some i=>match i.zero with
    | some z=>match b1O z i.size with
     | true=>some (.map k e z)
     | false=>none
    | none=>none
   | none=>none
  | _=>none
 | some (.struct fs)=>match P.stoodInHeld t||P.eqGuardType P.depth t with
  | false=>match a4D P 0 fs.toList with
   | true=>some (.strs fs.size)
   | false=>none
  | true=>none
 | _=>none
def c2E (P:Program)(xt:Nat→Option XI):Prop:=∀ t i,xt t=some i→b3W P t=some i
def a5u (s:ByteArray):List D→List D→Option (Option D)
 | [],[]=>some none
 | .prim (.string k)::ks,d::vs=>match a1Q s k with
  | true=>some (some d)
  | false=>a5u s ks vs
 | _,_=>none
def a3e:List D→List D→Option Bool
 | [],[]=>some true
 | .prim (.string a)::l,.prim (.string b)::l'=>match a3e l l' with
  | some r=>some (a1Q a b&&r)
  | none=>none
 | _,_=>none
def okD (ok:Bool)(d:D)(b:Bool):D:=match ok with
 | true=>.tup [d,.prim (.bool b)]
 | false=>d
def c7V:TI→Bool
 | .other | .ptr=>false
 | _=>true
def evQ (tt:Nat→Option a0k)(xt:Nat→Option XI)(g:Operand→D):Op→Option (D × Prop)
 | .makeInterface t x=>match tt t with
  | some i=>match c7V i.ti with
   | true=>some (.ifc t (g x),True)
   | false=>none
  | none=>none
 | .lookup t x ix ok=>match xt t with
  | some (.map _ _ z)=>match g x with
   | .mp ks vs=>match g ix with
    | .prim (.string s)=>match a5u s ks vs with
     | some (some d)=>some (okD ok d true,True)
     | some none=>some (okD ok (ofV z) false,True)
     | none=>none
    | _=>none
   | _=>none
  | _=>none
 | .binOp op t x y _=>match xt t with
  | some (.strs n)=>match g x with
   | .agg l=>match g y with
    | .agg l'=>match a3e l l' with
     | some b=>match c7s op b with
      | some c=>some (.prim (.bool c),Nat.beq l.length n=true)
      | none=>none
     | none=>none
    | _=>none
   | _=>none
  | _=>none
 | _=>none
section
variable {P:Program} {ρ:Lk} {O:Nat→Prop} {w:World}
theorem b9V (a b:ByteArray):(a==b)=a1Q a b:=beq_toListBytes a b
theorem a6x {s:ByteArray}:∀ {ks vs:List D} {es:List MapEntry} {r:Option D} (i:Nat),a5u s ks vs=some r→es.length=ks.length→es.length=vs.length →
  (∀ (j:Nat) (d:D),ks[j]? = some d→Rep ρ O w d (es.getD j default).key)→(∀ (j:Nat) (d:D),vs[j]? = some d→Rep ρ O w d (es.getD j default).val) →
  (match r with
   | none=>Instr.findNow .string (.string s) es i=some none
   | some d=>∃ j v,Instr.findNow .string (.string s) es i=some (some (j,v))∧Rep ρ O w d v)
 | [],[],[],r,i,h,_,_,_,_=>by simp only [a5u,Option.some.injEq] at h;subst h;rfl
 | k::ks,v::vs,e::es,r,i,h,h1,h2,hk,hv=>by
  obtain ⟨kb,rfl⟩:∃ a,k=.prim (.string a):=by
   unfold a5u at h;split at h<;>first|(cases h;done)|skip
   ·simp at *
   ·rename_i h1 _;cases h1;exact ⟨_,rfl⟩
  simp only [a5u] at h;have h0:e.key=.string kb:=by
   have:=hk 0 _ rfl
   simp at this;generalize e.key=q at this;cases this;rfl
  have h3:Instr.findNow .string (.string s) (e::es) i=(match Instr.sameNow .string (.string s) e.key with
    | some true=>some (some (i,e.val))|some false=>Instr.findNow .string (.string s) es (i+1)|none=>none):=rfl
  rw [h0] at h3;have h4:Instr.sameNow .string (.string s) (.string kb)=some (a1Q s kb):=by
   show some (s==kb)=_;rw [b9V]
  rw [h4] at h3;cases hb:a1Q s kb with
  | true =>
   rw [hb] at h h3;simp only [Option.some.injEq] at h;subst h;exact ⟨i,e.val,h3,by simpa using hv 0 v rfl⟩
  | false =>
   rw [hb] at h h3;dsimp only at h h3;rw [h3];exact a6x (i+1) h (by simpa using h1) (by simpa using h2) (fun j d hd=>by simpa using hk (j+1) d (by simpa using hd)) (fun j d hd=>by simpa using hv (j+1) d (by simpa using hd))
 | [],_::_,_,_,_,h,_,_,_,_=>by simp [a5u] at h
 | [],[],_::_,_,_,_,h1,_,_,_=>by simp at h1
 | _::_,[],[],_,_,_,h1,_,_,_=>by simp at h1
 | _::_,[],_::_,_,_,_,_,h2,_,_=>by simp at h2
 | _::_,_::_,[],_,_,_,h1,_,_,_=>by simp at h1
theorem b2P {t k e:Nat}{z:Value}(h:b3W P t=some (.map k e z)):P.underlying t=some (.map k e)∧P.underlying k=some .string∧(∃ i,P.info? e=some i∧i.zero=some z) ∧
  ∀ (j:Nat) (x:Value),z.cells[j]? = some x→one x=true:=by
 unfold b3W at h;split at h<;>first|(cases h;done)|skip
 ·rename_i k' e' h1
  split at h<;>first|(cases h;done)|skip
  rename_i h2;split at h<;>first|(cases h;done)|skip
  rename_i i h3;split at h<;>first|(cases h;done)|skip
  rename_i z' h4;split at h<;>first|(cases h;done)|skip
  rename_i h5;cases h;exact ⟨h1,h2,⟨i,h3,h4⟩,(a3y h5).2⟩
 ·(repeat' split at h)<;>cases h
theorem b6q {t n:Nat}(h:b3W P t=some (.strs n)):∃ fs:Array Field,P.underlying t=some (.struct fs)∧P.stoodInHeld t=false∧P.eqGuardType P.depth t=false∧a4D P 0 fs.toList=true∧fs.size=n:=by
 unfold b3W at h;split at h<;>first|(cases h;done)|skip
 ·(repeat' split at h)<;>cases h
 ·rename_i fs h1
  split at h<;>first|(cases h;done)|skip
  rename_i h2;split at h<;>first|(cases h;done)|skip
  rename_i h3;cases h;simp only [Bool.or_eq_false_iff] at h2;exact ⟨fs,h1,h2.1,h2.2,h3,rfl⟩
theorem a9F:∀ {l l':List D} {b:Bool},a3e l l'=some b→l.length=l'.length
 | [],[],_,_=>rfl
 | [],_::_,_,h=>by simp [a3e] at h
 | c::l,[],_,h=>by
  unfold a3e at h;split at h
  ·simp at *
  ·simp at *
  ·cases h
 | c::l,c'::l',b,h=>by
  unfold a3e at h;split at h
  ·simp at *
  ·rename_i h1 h2
   cases h1;cases h2;split at h
   ·rename_i hr;simp [a9F hr]
   ·cases h
  ·cases h
theorem a5J (d:Nat){xs ys:Array Value}:∀ (fs:List Field) (i:Nat) (l l':List D) (b:Bool),a4D P i fs=true→a3e l l'=some b→l.length=fs.length →
  (∀ (j:Nat) (c:D),l[j]? = some c→Rep ρ O w c (xs.getD (i+j) undef))→(∀ (j:Nat) (c:D),l'[j]? = some c→Rep ρ O w c (ys.getD (i+j) undef)) →
  (∀ j,j<fs.length→i+j<xs.size∧i+j<ys.size)→(Op.eqFields (d+1) xs ys fs).run P w=.ok b w
 | [],i,[],l',b,_,h,_,_,_,_=>by
  cases l' with
  | nil=>simp only [a3e,Option.some.injEq] at h;subst h;rfl
  | cons=>simp [a3e] at h
 | f::fs,i,c::l,l',b,hf,h,hl,hx,hy,hin=>by
  cases l' with
  | nil=>simp [a3e] at h
  | cons c' l' =>
   obtain ⟨a,rfl⟩:∃ a,c=.prim (.string a):=by
    unfold a3e at h;split at h<;>first|(cases h;done)|skip
    ·simp at *
    ·rename_i h1 _;cases h1;exact ⟨_,rfl⟩
   obtain ⟨a',rfl⟩:∃ a,c'=.prim (.string a):=by
    unfold a3e at h;split at h<;>first|(cases h;done)|skip
    ·simp at *
    ·rename_i _ h1;cases h1;exact ⟨_,rfl⟩
   simp only [a3e] at h;cases hr:a3e l l' with
   | none=>simp [hr] at h
   | some r =>
    simp only [hr,Option.some.injEq] at h;simp only [a4D,Bool.and_eq_true] at hf;obtain ⟨⟨⟨f1,f2⟩,f3⟩,f4⟩:=hf;have f2:=Nat.eq_of_beq_eq_true f2;have f3:P.underlying f.type=some .string:=by split at f3<;>first|assumption|cases f3
    have hxa:xs[i]? = some (.string a):=by
     have:=hx 0 _ rfl
     rw [Nat.add_zero] at this;have hlt:=(hin 0 (by simp)).1;rw [Nat.add_zero] at hlt;rw [Array.getD_eq_getD_getElem?,Array.getElem?_eq_getElem hlt,Option.getD_some] at this;rw [Array.getElem?_eq_getElem hlt];generalize xs[i]=q at this;cases this;rfl
    have hya:ys[i]? = some (.string a'):=by
     have:=hy 0 _ rfl
     rw [Nat.add_zero] at this;have hlt:=(hin 0 (by simp)).2;rw [Nat.add_zero] at hlt;rw [Array.getD_eq_getD_getElem?,Array.getElem?_eq_getElem hlt,Option.getD_some] at this;rw [Array.getElem?_eq_getElem hlt];generalize ys[i]=q at this;cases this;rfl
    have ag:(isAgg f.type).run P w=.ok false w:=by
     unfold isAgg;rw [run_bind,a0f f3];rfl
    have part1:(part f.type xs f.offset).run P w=.ok (.string a) w:=by
     unfold part;rw [run_bind,ag];dsimp only;rw [if_neg (by simp),f2];simp only [hxa];rfl
    have part2:(part f.type ys f.offset).run P w=.ok (.string a') w:=by
     unfold part;rw [run_bind,ag];dsimp only;rw [if_neg (by simp),f2];simp only [hya];rfl
    have hne:f.name ≠ "_":=by simpa using f1
    simp only [Op.eqFields];rw [if_pos hne,run_bind,part1];dsimp only;rw [run_bind,part2];dsimp only;rw [run_bind,run_equalIn_string w d f.type a a' f3];dsimp only;have ih:=a5J d fs (i+1) l l' r f4 hr (by simpa using hl) (fun j c hc=>by have:=hx (j+1) c (by simpa using hc);rwa [show i+(j+1)=i+1+j from by omega] at this)
     (fun j c hc=>by have:=hy (j+1) c (by simpa using hc);rwa [show i+(j+1)=i+1+j from by omega] at this) (fun j hj=>by have:=hin (j+1) (by simp;omega);omega)
    subst h;cases hb:a1Q a a' with
    | true =>
     unfold a1Q at hb;rw [hb];simpa using ih
    | false =>
     unfold a1Q at hb;rw [hb];rfl
 | [],_,_::_,_,_,_,_,h,_,_,_=>by simp at h
 | _::_,_,[],_,_,_,_,h,_,_,_=>by simp at h
theorem c0S {t:Nat}{i:a0k}(h:a2N P t=some i)(hc:c7V i.ti=true):∃ u,P.underlying t=some u∧∀ ms,u≠.interface ms:=by
 cases hk:i.ti with
 | int k=>exact ⟨_,b2L h hk,by simp⟩
 | bool=>exact ⟨_,b0l h hk,by simp⟩
 | string=>exact ⟨_,a1G h hk,by simp⟩
 | struct fs=>obtain ⟨a,h1,_⟩:=a4E h hk;exact ⟨_,h1,by simp⟩
 | slice e a b c=>exact ⟨_,(a0t h hk).1,by simp⟩
 | arr n e a=>obtain ⟨a,h1,_⟩:=a8Z h hk;exact ⟨_,h1,by simp⟩
 | ptr=>rw [hk] at hc;cases hc
 | other=>rw [hk] at hc;cases hc
theorem c2T {tt:Nat→Option a0k}{xt:Nat→Option XI}{o:Oper}{g:Operand→D}{ev:Operand→Value}{d:D}{p:Prop}(htt:Tab P tt)(hxt:c2E P xt)(hg:∀ x,Rep ρ O w (g x) (ev x))
  (h:evQ tt xt g o.op=some (d,p)) (hp:p):∃ v,(execOp ev o).run P w=.ok (.value v) w∧Rep ρ O w d v:=by
 unfold execOp;unfold evQ at h;split at h<;>first|(cases h;done)|skip
 ·rename_i t x ho
  simp only [ho];split at h<;>first|(cases h;done)|skip
  rename_i i hi;split at h<;>first|(cases h;done)|skip
  rename_i hc;cases h;obtain ⟨u,h1,h2⟩:=c0S (htt _ _ hi) hc;refine ⟨.iface t (ev x),?_,.ifc (hg x)⟩;rw [run_bind]
  have:(Instr.makeInterface t (ev x)).run P w=.ok (.iface t (ev x)) w:=by
   unfold Instr.makeInterface;rw [run_bind,a0f h1];dsimp only;split
   ·rename_i ms;exact absurd rfl (h2 ms)
   ·rfl
  rw [this];rfl
 ·rename_i t x ix ok ho
  simp only [ho];split at h<;>first|(cases h;done)|skip
  rename_i k e z hi;split at h<;>first|(cases h;done)|skip
  rename_i ks vs hgx;split at h<;>first|(cases h;done)|skip
  rename_i s hgi;obtain ⟨a1,a2,⟨inf,a3,a4⟩,a5⟩:=b2P (hxt _ _ hi);have hx:=hg x;have hy:=hg ix;rw [hgx] at hx;rw [hgi] at hy;generalize ev x=vx at hx;generalize ev ix=vi at hy;cases hy;cases hx with
  | mp hO hr hb h1 h2 hk hv =>
   rename_i r clock es;have hc:(Instr.checkKey es.isEmpty 10000 k (.string s)).run P w=.ok () w:=MapKept.run_checkKey (k:=.string s) a2 (by simp [MapKept.IsKey]) _ 9999;have hz:(zeroValue e).run P w=.ok z w:=a3X a3 a4 w;have find:∀ q,a5u s ks vs=some q→_:=fun q hq=>a6x (ρ:=ρ) (O:=O) (w:=w) (es:=es.toList) 0 hq (by simpa using h1) (by simpa using h2) (fun j d hd=>by simpa [Array.getD_eq_getD_getElem?] using hk j d hd) (fun j d hd=>by simpa [Array.getD_eq_getD_getElem?] using hv j d hd)
   have okR:∀ (d:D) (v:Value) (b:Bool),Rep ρ O w d v→Rep ρ O w (okD ok d b) (if ok then .tuple #[v,.bool b] else v):=by
    intro d v b hr;cases ok with
    | false=>exact hr
    | true =>
     refine .tup rfl fun i d' hd=>?_
     match i with
     | 0=>simp at hd;subst hd;exact hr
     | 1=>simp at hd;subst hd;exact .prim _
     | n+2=>simp at hd
   split at h<;>first|(cases h;done)|skip
   ·rename_i d' hq
    cases h;obtain ⟨j,v,hf,hr'⟩:=find _ hq;refine ⟨_,?_,okR _ v true hr'⟩;rw [run_bind]
    have:(Instr.lookup t (.map (some r)) (.string s) ok).run P w=.ok (if ok then .tuple #[v,.bool true] else v) w:=by
     simp [Instr.lookup,a0f a1,MapKept.run_getObj_map hb,hc,MapKept.run_findKey a2 hf,Result.andThen]
    rw [this];rfl
   ·rename_i hq
    cases h;have hf:=find _ hq;refine ⟨_,?_,okR _ z false (.ofV fun i x hx=>.inl (a5 i x hx))⟩;rw [run_bind]
    have:(Instr.lookup t (.map (some r)) (.string s) ok).run P w=.ok (if ok then .tuple #[z,.bool false] else z) w:=by
     simp [Instr.lookup,a0f a1,MapKept.run_getObj_map hb,hc,MapKept.run_findKey a2 hf,hz,Result.andThen]
    rw [this];rfl
 ·rename_i op t x y yt ho
  simp only [ho];split at h<;>first|(cases h;done)|skip
  rename_i n hi;split at h<;>first|(cases h;done)|skip
  rename_i l hgx;split at h<;>first|(cases h;done)|skip
  rename_i l' hgy;split at h<;>first|(cases h;done)|skip
  rename_i b hb;split at h<;>first|(cases h;done)|skip
  rename_i c hn;cases h;obtain ⟨fs,a1,a2,a3,a4,a5⟩:=b6q (hxt _ _ hi);have hx:=hg x;have hy:=hg y;rw [hgx] at hx;rw [hgy] at hy;generalize ev x=vx at hx;generalize ev y=vy at hy;have hp:=Nat.eq_of_beq_eq_true hp;have hl':=a9F hb;cases hx with
  | agg n1 o1 r1 =>
   cases hy with
   | agg n2 o2 r2 =>
    rename_i xs ys;have eqf:P.fieldsOf t=fs:=by unfold Program.fieldsOf;rw [a1]
    have run:(Op.equalIn 10000 t (.agg xs) (.agg ys)).run P w=.ok b w:=by
     rw [show (10000:Nat)=9998+1+1 from rfl,run_equalIn_struct w _ t xs ys (by rw [eqf];exact a1) a2,eqf];exact a5J (ρ:=ρ) (O:=O) 9998 fs.toList 0 l l' b a4 hb (by simp;omega) (fun j c hc=>by rw [Nat.zero_add];exact r1 j c hc) (fun j c hc=>by rw [Nat.zero_add];exact r2 j c hc)
      (fun j hj=>by simp at hj;omega)
    refine ⟨.bool c,?_,.prim _⟩;have r3:(do eqGuard op t x y (.agg xs) (.agg ys);binOp op t (.agg xs) (.agg ys):Sem Value).run P w=.ok (.bool c) w:=by
     rw [run_bind,run_eqGuard_agg w op t x y xs ys a3];dsimp only;unfold c7s at hn;cases op<;>simp only [Option.some.injEq,reduceCtorEq] at hn
     ·subst hn;rw [run_eql_struct,run];rfl
     ·subst hn;rw [run_neq_struct,run];rfl
    rw [run_bind,r3];rfl
end
def evM (tt:Nat→Option a0k)(n k:Nat)(g:Operand→D):Op→Option (D × Ent × Prop)
 | .makeSlice t l c=>match tt t with
  | some i=>match i.ti with
   | .slice e esz eby ez=>match g l with
    | .prim (.int _ a)=>match g c with
     | .prim (.int _ b)=>some (.osl k n esz 0 a.toNat,⟨k,n,e,esz,List.replicate a.toNat (ofV ez)⟩,0≤a∧a≤b∧(eby:Int)*b≤281474976710656∧b≤9223372036854775807)
     | _=>none
    | _=>none
   | _=>none
  | none=>none
 | _=>none
section
variable {C:Ctx} {F:Fra} {s:St} {ops:Array Oper} {o:Oper} {os:List Oper} {K:St→Prop} {ρ:Lk} {H:Hp} {w:World}
theorem b5g {α:Type}{n i:Nat}{x d:α}(h:(List.replicate n x)[i]? = some d):i<n∧x=d:=by
 rw [List.getElem?_replicate] at h;split at h
 ·rename_i hi;exact ⟨hi,Option.some.inj h⟩
 ·cases h
theorem c5W {tt:Nat→Option a0k}{g:Operand→D}{ev:Operand→Value}{n k:Nat}{d:D}{e':Ent}{p:Prop}(htt:Tab C.P tt)(m:Mem C F ρ H w)(fr:∀ k,ρ k n=none)(hlt:∀ e∈H,e.g≠n)
  (hg:∀ x,Rep ρ (Own F.X ρ H) w (g x) (ev x)) (h:evM tt n k g o.op=some (d,e',p)) (hp:p) :
  ∃ v ρ' w',(execOp ev o).run C.P w=.ok (.value v) w'∧a9m C F H ρ w n d (some e') v ρ' w':=by
 unfold evM at h;split at h<;>first|(cases h;done)|skip
 rename_i t l c ho;split at h<;>first|(cases h;done)|skip
 rename_i i hi;split at h<;>first|(cases h;done)|skip
 rename_i e esz eby ez hk;split at h<;>first|(cases h;done)|skip
 rename_i kl a hl;split at h<;>first|(cases h;done)|skip
 rename_i kc b hc;cases h;obtain ⟨h0,hab,hby,hmx⟩:=hp;obtain ⟨k1,⟨inf,k2,rfl,rfl,k5⟩,k6,k7⟩:=a0t (htt _ _ hi) hk;have h1:=hg l;have h2:=hg c;rw [hl] at h1;rw [hc] at h2;generalize hvl:ev l=vl at h1;generalize hvc:ev c=vc at h2;cases h1;cases h2;have run:=run_make (P:=C.P) w t e inf ez k1 k2 k5 kl kc a b h0 hab hby hmx;have hcell:∀ q,q<b.toNat*inf.size→(madeCells ez.cells (b.toNat*inf.size)).getD q undef=ez.cells.getD (q%inf.size) undef∧q%inf.size<ez.cells.size:=fun q hq=>by
  have hpos:0<inf.size:=by
   rcases Nat.eq_zero_or_pos inf.size with h|h
   ·rw [h] at hq;simp at hq
   ·exact h
  have hm:q%ez.cells.size<ez.cells.size:=Nat.mod_lt _ (by omega);rw [k6] at hm;refine ⟨?_,by omega⟩;unfold madeCells;simp only [Array.getD_eq_getD_getElem?,Array.getElem?_map];rw [Array.getElem?_eq_getElem (by simpa using hq)];simp only [Array.getElem_range,Option.map_some,Option.getD_some];rw [k6,getElem!_pos ez.cells (q%inf.size) (by omega),Array.getElem?_eq_getElem (by omega)];rfl
 have hec:(ofV ez).cells.length=inf.size∧∀ (j:Nat) (c:D),(ofV ez).cells[j]? = some c→c=.prim (ez.cells.getD j undef):=by
  cases ez
  case tuple vs =>
   have:=k7 0 (.tuple vs) rfl
   simp [Ide.one] at this
  case agg vs =>
   refine ⟨by simp only [ofV,D.cells,List.length_map,Array.length_toList];exact k6,fun j c hc=>?_⟩;simp only [ofV,D.cells,List.getElem?_map,Array.getElem?_toList,Option.map_eq_some_iff] at hc;obtain ⟨x,hx,rfl⟩:=hc;show D.prim x=.prim (vs.getD j undef);rw [Array.getD_eq_getD_getElem?,hx];rfl
  all_goals
   refine ⟨k6,fun j c hc=>?_⟩
   match j with
   | 0=>simp only [ofV,D.cells,List.getElem?_cons_zero,Option.some.injEq] at hc;subst hc;rfl
   | j+1=>simp [ofV,D.cells] at hc
 have hle:a.toNat≤b.toNat:=by omega
 have ho':a2j ρ (Own F.X ρ H) w ⟨k,n,e,inf.size,List.replicate a.toNat (ofV ez)⟩ (madeCells ez.cells (b.toNat*inf.size)):=by
  refine ⟨by simp only [List.length_replicate,size_madeCells];exact Nat.mul_le_mul_right _ hle,fun q d hd=>?_,fun q v hv=>?_,fun q d j c hd hcj=>?_⟩
  ·obtain ⟨_,rfl⟩:=b5g hd
   exact hec.1
  ·have hq:q<b.toNat*inf.size:=by have:=(Array.getElem?_eq_some_iff.1 hv).1;rw [size_madeCells] at this;exact this
   obtain ⟨c1,c2⟩:=hcell q hq;rw [Array.getD_eq_getD_getElem?,hv,Option.getD_some,Array.getD_eq_getD_getElem?,Array.getElem?_eq_getElem c2,Option.getD_some] at c1;rw [c1];exact k7 _ _ (Array.getElem?_eq_getElem c2)
  ·obtain ⟨hq,rfl⟩:=b5g hd
   have hj:j<inf.size:=by rw [← hec.1];exact (List.getElem?_eq_some_iff.1 hcj).1
   rw [hec.2 j c hcj];dsimp only;have hlt2:q*inf.size+j<b.toNat*inf.size:=by
    have:(q+1)*inf.size≤b.toNat*inf.size:=Nat.mul_le_mul_right _ (by omega)
    rw [Nat.add_mul] at this;omega
   rw [(hcell _ hlt2).1,Nat.mul_comm,Nat.mul_add_mod,Nat.mod_eq_of_lt hj];exact .prim _
 obtain ⟨m1,x1⟩:=m.alloc ⟨k,n,e,inf.size,List.replicate a.toNat (ofV ez)⟩ _ (fr k) (fun e' he' h=>hlt e' he' h.2) ho';refine ⟨.slice (some ⟨w.heap.size,0,none⟩) a.toNat b.toNat,ρ.put k n w.heap.size,_,?_,m1,x1,fun k' g' hg=>by unfold Lk.put;rw [if_neg fun h=>hg h.2],?_⟩
 ·unfold execOp
  simp only [ho,hvl,hvc];rw [run_bind,run];rfl
 ·exact Rep.osl0 (b:=w.heap.size) (T:=e) (fz:=(0,0)) (Lk.put_same _ _ _ _) (by rw [a0v];exact if_pos rfl) hle (by rw [size_madeCells]) (by simp only [maxLen];omega)
theorem c5s {tt:Nat→Option a0k}{n k:Nat}{g:Operand→D}{op:Op}{d:D}{e:Ent}{p:Prop}(h:evM tt n k g op=some (d,e,p)):e.g=n:=by
 unfold evM at h
 (repeat' split at h)<;>first|(cases h;done)|(cases h;rfl)
theorem OkL.mk' {tt:Nat→Option a0k}(k:Nat)(htt:Tab C.P tt){d:D}{e':Ent}{p:Prop}(hw:a0N ops s.env o=some true)(he:evM tt s.n k (a1g s.env) o.op=some (d,e',p))(hp:p)
  (h:OkL C F ops os ⟨a1N s.env o.dst d,e'::s.H,s.n+1⟩ K):OkL C F ops (o::os) s K :=
 OkL.step hw (fun ρ a w hs=>by
  obtain ⟨v,ρ',w',h1,h2⟩:=c5W htt hs.mem (fun k=>hs.fresh k _ (Nat.le_refl _)) (fun e he=>Nat.ne_of_lt (hs.gen e he)) (a0S hs.env) he hp;refine ⟨v,ρ',w',.inl h1,⟨h2.mem,h2.ext,fun k g hg=>by rw [h2.far k g (by omega)];exact hs.fresh k g (by omega),h2.rep⟩,fun e he2=>?_⟩;rcases List.mem_cons.1 he2 with rfl|he2
  ·have:=c5s he;omega
  ·exact Nat.lt_succ_of_lt (hs.gen e he2)) h
theorem OkL.l' {tt:Nat→Option a0k}(k:Nat)(htt:Tab C.P tt){d:D}{ne:Option Ent}{p:Prop}(hw:a0N ops s.env o=some true)(he:evL tt s.H s.n k (a1g s.env) o.op=some (d,ne,p))(hp:p)
  (h:OkL C F ops os ⟨a1N s.env o.dst d,a4f ne s.H,s.n+1⟩ K):OkL C F ops (o::os) s K :=
 OkL.step hw (fun ρ a w hs=>by
  obtain ⟨v,ρ',w',h1,h2⟩:=c2S (fun _ h=>h) htt hs.mem (fun k=>hs.fresh k _ (Nat.le_refl _)) (fun e he=>Nat.ne_of_lt (hs.gen e he)) (a0S hs.env) he hp;refine ⟨v,ρ',w',.inl h1,⟨h2.mem,h2.ext,fun k g hg=>by rw [h2.far k g (by omega)];exact hs.fresh k g (by omega),h2.rep⟩,fun e he'=>?_⟩;cases ne with
  | none=>exact Nat.lt_succ_of_lt (hs.gen e he')
  | some e' =>
   rcases List.mem_cons.1 he' with rfl|he'
   ·have:=b7w he
    omega
   ·exact Nat.lt_succ_of_lt (hs.gen e he')) h
theorem OkL.q {tt:Nat→Option a0k}{xt:Nat→Option XI}(htt:Tab C.P tt)(hxt:c2E C.P xt){d:D}{p:Prop}(hw:a0N ops s.env o=some true)(he:evQ tt xt (a1g s.env) o.op=some (d,p))(hp:p)
  (h:OkL C F ops os ⟨a1N s.env o.dst d,s.H,s.n+1⟩ K):OkL C F ops (o::os) s K :=
 OkL.step hw (fun ρ a w hs=>by
  obtain ⟨v,h1,h2⟩:=c2T htt hxt (a0S hs.env) he hp;exact ⟨v,ρ,w,.inl h1,.pure hs h2,fun e he=>Nat.lt_succ_of_lt (hs.gen e he)⟩) h
theorem a8l {f t:Nat}{name:String}{d0:D}{r:Operand}{args:Array Operand}{tys:Array Nat}{a:Act}(ho:o.op=.call ⟨.invoke r name,args,tys⟩)(hr:a1g s.env r=.ifc t d0)
  (hm:∀ v w,(method (C.P.types.size+Made.depth) t v name).run C.P w=.ok (f,v) w) (hcall:a3b C.P f) (hs:Sat C F ρ s a w) :
  ∃ vs,(execOp a.eval o).run C.P w=.ok (.enter f vs) w∧vs.size=(d0::args.toList.map (a1g s.env)).length ∧
   ∀ (i:Nat) (d:D),(d0::args.toList.map (a1g s.env))[i]? = some d→Rep ρ (Own F.X ρ s.H) w d (vs.getD i undef):=by
 have hrr:=a0S hs.env r;rw [hr] at hrr;generalize hv:a.eval r=v at hrr;cases hrr with
 | ifc h0 =>
  rename_i v0;refine ⟨#[v0]++args.map a.eval,?_,by simp;omega,fun i d hd=>?_⟩
  ·unfold execOp
   simp only [ho];rw [run_bind]
   have:(resolve a.eval ⟨.invoke r name,args,tys⟩ o.type).run C.P w=.ok { target:=.fn (.method name) #[],args:=#[.iface t v0]++args.map a.eval } w:=by
    unfold resolve;simp only [hv];rfl
   rw [this];dsimp only;unfold invoke;have g0:(#[Value.iface t v0]++args.map a.eval)[0]? = some (.iface t v0):=by rw [Array.getElem?_append_left (by simp)];rfl
   have g1:(#[Value.iface t v0]++args.map a.eval).extract 1 (#[Value.iface t v0]++args.map a.eval).size=args.map a.eval:=by
    apply Array.ext_getElem?;intro q;rw [Array.getElem?_extract];simp only [Array.size_append,List.size_toArray,List.length_cons,List.length_nil,Array.size_map];rw [Array.getElem?_append_right (by simp)];simp only [List.size_toArray,List.length_cons,List.length_nil];split
    ·congr 1;omega
    ·rw [Array.getElem?_eq_none (by simp;omega)]
   simp only [g0,g1];unfold callMethod;simp only [];rw [run_bind,a3W];dsimp only;rw [run_bind,hm];dsimp only;exact a4l hcall _ w
  ·cases i with
   | zero =>
    simp at hd;subst hd
    have:(#[v0]++args.map a.eval).getD 0 undef=v0:=by rw [Array.getD_eq_getD_getElem?,Array.getElem?_append_left (by simp)];rfl
    rw [this];exact h0
   | succ i =>
    simp only [List.getElem?_cons_succ,List.getElem?_map,Array.getElem?_toList,Option.map_eq_some_iff] at hd;obtain ⟨x,hx,rfl⟩:=hd
    have:(#[v0]++args.map a.eval).getD (i+1) undef=a.eval x:=by
     simp only [Array.getD_eq_getD_getElem?];rw [Array.getElem?_append_right (by simp)];simp [hx]
    rw [this];exact a0S hs.env x
theorem OkL.invH {f t:Nat}{name:String}{d0:D}{ds:List D}{r:Operand}{args:Array Operand}{tys:Array Nat}{Φ:D→Hp→Nat→Prop}(hw:a0N ops s.env o=some true)(ho:o.op=.call ⟨.invoke r name,args,tys⟩)(hr:a1g s.env r=.ifc t d0)
  (hm:∀ v w,(method (C.P.types.size+Made.depth) t v name).run C.P w=.ok (f,v) w) (hds:d0::args.toList.map (a1g s.env)=ds) (hc:a0m C f ds s.H s.n Φ)
  (h:∀ d H' n',Φ d H' n'→OkL C F ops os ⟨a1N s.env o.dst d,H',n'⟩ K):OkL C F ops (o::os) s K:=by
 intro hd l hl ρ a w hs;cases l with
 | nil=>simp at hl
 | cons i l =>
  simp only [List.map_cons,List.cons.injEq] at hl;simp only [List.all_cons,Bool.and_eq_true] at hd;obtain ⟨vs,h1,h2,h3⟩:=a8l ho hr hm hc.1 hs;rw [hds] at h2 h3;simp only [wpOps,hl.1];rw [if_pos (a2x hs.env hw)];refine .inl ?_;unfold Oper.wp;rw [h1];refine (hc.2 F ρ w vs hs.mem hs.fresh hs.gen h2 h3).mono ?_;rintro e w' ⟨v,d,H',n',ρ',rfl,hΦ,m,x,fr,g,r⟩;exact h d H' n' hΦ hd.2 l hl.2 ρ' (a.put o.dst v) w' (hs.put m x fr g r hd.1)
structure c7A (es:Array MapEntry)(ks vs:List D):Prop where
 h1:es.size=ks.length
 h2:es.size=vs.length
 hk:∀ (i:Nat) (d:D),ks[i]? = some d→∀ ρ O w,Rep ρ O w d (es.getD i default).key
 hv:∀ (i:Nat) (d:D),vs[i]? = some d→∀ ρ O w,Rep ρ O w d (es.getD i default).val
def OkM (C:Ctx)(F:Fra)(ops:Array Oper)(os:List Oper)(m:Nat)(ks vs:List D)(s:St)(K:St→Prop):Prop :=
 os.all (a2A F.nt)=true→∀ (l:List Nat),l.map (ops[·]?)=os.map some→∀ ρ a w es clock,Sat C F ρ s a w→a.tmps.getD m undef=.map (some w.heap.size)→m<a.tmps.size→c7A es ks vs →
  wpOps C.P ops (Fin C F K) l a (w.alloc (.map es clock))
theorem OkM.start {m T:Nat}(hgd:o.guard=none)(ho:o.op=.makeMap T none)(hd:o.dst=some m)(h:OkM C F ops os m [] [] ⟨a1N s.env (some m) .any,s.H,s.n+1⟩ K):OkL C F ops (o::os) s K:=by
 intro hds l hl ρ a w hs;cases l with
 | nil=>simp at hl
 | cons i l =>
  simp only [List.map_cons,List.cons.injEq] at hl;simp only [List.all_cons,Bool.and_eq_true] at hds;simp only [wpOps,hl.1];rw [if_pos (a2x hs.env (by unfold a0N;rw [hgd]))];refine .inl ?_;have hrun:(execOp a.eval o).run C.P w=.ok (.value (.map (some w.heap.size))) (w.alloc (.map #[] 0)):=by
   unfold execOp;simp only [ho];rw [run_bind];rfl
  unfold Oper.wp;rw [hrun];have hm:m<a.tmps.size:=by
   have h1:=hds.1;rw [hs.nt];unfold a2A at h1;rw [hd] at h1;exact Nat.blt_eq.mp h1
  have sat:=hs.put (o:=o) (d:=.any) (v:=.map (some w.heap.size)) hs.mem (.refl _ _ _) (fun k g hg=>hs.fresh k g (by omega:s.n≤g)) (fun e he=>Nat.lt_succ_of_lt (hs.gen e he)) (.any _) hds.1;show wpOps C.P ops (Fin C F K) l (a.put o.dst (.map (some w.heap.size))) (w.alloc (.map #[] 0));rw [hd] at sat ⊢;refine h hds.2 l hl.2 ρ (a.put (some m) (.map (some w.heap.size))) w #[] 0 sat ?_ (by simp [Act.put,hm]) ⟨rfl,rfl,by simp,by simp⟩;show (a.tmps.setIfInBounds m (.map (some w.heap.size))).getD m undef=_;rw [Array.getD_eq_getD_getElem?,Array.getElem?_setIfInBounds,if_pos rfl,if_pos hm];rfl
theorem a6Z.agg {l:List D}(h:∀ d∈l,a6Z d):a6Z (.agg l):=fun _ _ _ _ _ _ _ hr=>by
 cases hr with|agg hn ho hh=>exact .agg hn ho fun i d hd=>h d (List.mem_of_getElem? hd) _ _ _ _ _ _ _ (hh i d hd)
theorem a6Z.clo {fn:Fn}:a6Z (.clo fn [] []):=fun _ _ _ _ _ _ _ hr=>by
 cases hr with|clo hf hc _ _=>exact .clo hf hc (by simp) (by simp)
theorem OkM.p {tt:Nat→Option a0k}(htt:Tab C.P tt){m t:Nat}{ks vs:List D}{d:D}{p:Prop}(hw:a0N ops s.env o=some true)(he:evP tt (a1g s.env) o.op=some (d,p))(hp:p)(hflat:a6Z d)(hd:o.dst=some t)(hne:t≠m)
  (h:OkM C F ops os m ks vs ⟨a1N s.env (some t) d,s.H,s.n+1⟩ K):OkM C F ops (o::os) m ks vs s K:=by
 intro hds l hl ρ a w es clock hs hm hlt hr;cases l with
 | nil=>simp at hl
 | cons i l =>
  simp only [List.map_cons,List.cons.injEq] at hl;simp only [List.all_cons,Bool.and_eq_true] at hds;simp only [wpOps,hl.1];rw [if_pos (a2x hs.env hw)];refine .inl ?_;have x:=Ext.allocPure (ρ:=ρ) (F:=F) (H:=s.H) (w:=w) (.map es clock);obtain ⟨v,h1,h2⟩:=b7z (ρ:=ρ) (O:=Own F.X ρ s.H) (w:=w.alloc (.map es clock)) htt (fun y=>(a0S hs.env y).mono x) he hp;unfold Oper.wp;rw [h1];have sat:=hs.put (o:=o) (d:=d) (v:=v) hs.mem (.refl _ _ _) (fun k g hg=>hs.fresh k g (by omega:s.n≤g)) (fun e he=>Nat.lt_succ_of_lt (hs.gen e he)) (hflat _ _ _ _ _ _ _ h2) hds.1;show wpOps C.P ops (Fin C F K) l (a.put o.dst v) (w.alloc (.map es clock));rw [hd] at sat ⊢;refine h hds.2 l hl.2 ρ (a.put (some t) v) w es clock sat ?_ (by simp [Act.put,hlt]) hr;show (a.tmps.setIfInBounds t v).getD m undef=_;rw [Array.getD_eq_getD_getElem?,Array.getElem?_setIfInBounds,if_neg hne,← Array.getD_eq_getD_getElem?];exact hm
theorem OkM.ins {m t T k e:Nat}{z:Value}{key:ByteArray}{d:D}{ks vs:List D}{xt:Nat→Option XI}(hxt:c2E C.P xt)(hT:xt T=some (.map k e z))(hgd:o.guard=none)(ho:o.op=.insert T (.tmp m) (.const (.string key)) (.tmp t))(hd:o.dst=none)
  (hnew:a5u key ks vs=some none) (hv:s.env.get t=d) (hflat:∀ ρ O w v,Rep ρ O w d v→∀ ρ' O' w',Rep ρ' O' w' d v)
  (h:OkM C F ops os m (ks++[.prim (.string key)]) (vs++[d]) ⟨s.env,s.H,s.n+1⟩ K):OkM C F ops (o::os) m ks vs s K:=by
 intro hds l hl ρ a w es clock hs hm hlt hr;cases l with
 | nil=>simp at hl
 | cons i l =>
  simp only [List.map_cons,List.cons.injEq] at hl;simp only [List.all_cons,Bool.and_eq_true] at hds;simp only [wpOps,hl.1];rw [if_pos (a2x hs.env (by unfold a0N;rw [hgd]))];refine .inl ?_;obtain ⟨a1,a2,_,_⟩:=b2P (hxt _ _ hT);have hb:(w.alloc (.map es clock)).heap[w.heap.size]? = some (.map es clock):=by rw [a0v,if_pos rfl]
  have hc:(Instr.checkKey false 10000 k (.string key)).run C.P (w.alloc (.map es clock))=.ok () (w.alloc (.map es clock)):=MapKept.run_checkKey (k:=.string key) a2 (by simp [MapKept.IsKey]) false 9999;have hf:Instr.findNow .string (.string key) es.toList 0=some none :=
   a6x (ρ:=ρ) (O:=fun _=>False) (w:=w) (es:=es.toList) 0 hnew (by simpa using hr.h1) (by simpa using hr.h2) (fun j d hd=>by simpa [Array.getD_eq_getD_getElem?] using hr.hk j d hd ρ (fun _=>False) w)
    (fun j d hd=>by simpa [Array.getD_eq_getD_getElem?] using hr.hv j d hd ρ (fun _=>False) w)
  generalize hvt:a.tmps.getD t undef=vt;have hset:{ (w.alloc (.map es clock)) with heap:=(w.alloc (.map es clock)).heap.setIfInBounds w.heap.size (.map (es.push { key:=.string key,val:=vt,born:=clock }) (clock+1)) } =
    w.alloc (.map (es.push { key:=.string key,val:=vt,born:=clock }) (clock+1)):=by
   show ({ w with heap:=(w.heap.push (.map es clock)).setIfInBounds w.heap.size _ }:World)={ w with heap:=w.heap.push _ }
   congr 1
   apply Array.ext_getElem?;intro q;rw [Array.getElem?_setIfInBounds,Array.getElem?_push,Array.getElem?_push]
   by_cases hq:w.heap.size=q
   ·subst hq;simp
   ·rw [if_neg hq,if_neg (Ne.symm hq),if_neg (Ne.symm hq)]
  have hrun:(execOp a.eval o).run C.P (w.alloc (.map es clock))=.ok .skip (w.alloc (.map (es.push { key:=.string key,val:=vt,born:=clock }) (clock+1))):=by
   unfold execOp;simp only [ho];rw [run_bind]
   have:(Instr.mapUpdate T (a.eval (.tmp m)) (a.eval (.const (.string key))) (a.eval (.tmp t))).run C.P (w.alloc (.map es clock))=.ok () (w.alloc (.map (es.push { key:=.string key,val:=vt,born:=clock }) (clock+1))):=by
    have e1:a.eval (.tmp m)=.map (some w.heap.size):=hm;have e2:a.eval (.const (.string key))=.string key:=rfl;have e3:a.eval (.tmp t)=vt:=hvt;rw [e1,e2,e3,← hset];simp [Instr.mapUpdate,a0f a1,MapKept.run_getObj_map hb,hc,MapKept.run_findKey a2 hf,MapKept.run_setObj_map _ hb,Result.andThen]
   rw [this];rfl
  unfold Oper.wp;rw [hrun];show wpOps C.P ops (Fin C F K) l (a.put o.dst undef) (w.alloc (.map (es.push { key:=.string key,val:=vt,born:=clock }) (clock+1)));rw [hd];have hrv:=hs.env t;rw [hv,hvt] at hrv;refine h hds.2 l hl.2 ρ _ w _ _ ⟨hs.mem,fun k g hg=>hs.fresh k g (by have:s.n+1≤g:=hg;omega),fun e he=>Nat.lt_succ_of_lt (hs.gen e he),hs.env,hs.nt,hs.dfr⟩ hm hlt ⟨by simp [hr.h1],by simp [hr.h2],fun i d' hd'=>?_,fun i d' hd'=>?_⟩
  ·rcases Nat.lt_or_ge i ks.length with hi|hi
   ·rw [List.getElem?_append_left hi] at hd'
    have:=hr.hk i d' hd'
    rw [Array.getD_eq_getD_getElem?,Array.getElem?_push,if_neg (by rw [hr.h1];omega),← Array.getD_eq_getD_getElem?];exact this
   ·rw [List.getElem?_append_right hi] at hd'
    have hz:i=ks.length:=by
     have:=(List.getElem?_eq_some_iff.1 hd').1
     simp at this;omega
    subst hz;simp at hd';subst hd';rw [Array.getD_eq_getD_getElem?,Array.getElem?_push,if_pos hr.h1.symm];exact fun _ _ _=>.prim _
  ·rcases Nat.lt_or_ge i vs.length with hi|hi
   ·rw [List.getElem?_append_left hi] at hd'
    have:=hr.hv i d' hd'
    rw [Array.getD_eq_getD_getElem?,Array.getElem?_push,if_neg (by rw [hr.h2];omega),← Array.getD_eq_getD_getElem?];exact this
   ·rw [List.getElem?_append_right hi] at hd'
    have hz:i=vs.length:=by
     have:=(List.getElem?_eq_some_iff.1 hd').1
     simp at this;omega
    subst hz;simp at hd';subst hd';rw [Array.getD_eq_getD_getElem?,Array.getElem?_push,if_pos hr.h2.symm];exact fun ρ' O' w'=>hflat _ _ _ _ hrv ρ' O' w'
theorem OkM.done {m:Nat}{ks vs:List D}(h:OkL C F ops os ⟨a1N s.env (some m) (.mp ks vs),s.H,s.n⟩ K):OkM C F ops os m ks vs s K:=by
 intro hds l hl ρ a w es clock hs hm hlt hr;have hO:¬ Own F.X ρ s.H w.heap.size:=fun h'=>absurd (hs.mem.own_lt h') (Nat.lt_irrefl _)
 have x:=Ext.allocPure (ρ:=ρ) (F:=F) (H:=s.H) (w:=w) (.map es clock);refine h hds l hl ρ a _ ⟨hs.mem.allocPure _,hs.fresh,hs.gen,fun t=>?_,hs.nt,hs.dfr⟩;show Rep _ _ _ (Env.get ((m,.mp ks vs)::s.env) t) _;rw [Env.get_cons]
 by_cases ht:m=t
 ·subst ht
  rw [if_pos rfl,hm];exact .mp hO (by simp) (by rw [a0v,if_pos rfl]) hr.h1 hr.h2 (fun i d hd=>hr.hk i d hd _ _ _) (fun i d hd=>hr.hv i d hd _ _ _)
 ·rw [if_neg ht];exact (hs.env t).mono x
def a4g (C:Ctx)(f:Nat)(ds:List D)(d:D):Prop:=∀ (ρ:Lk) (O:Nat→Prop) (w:World) (vs:Array Value),vs.size=ds.length→(∀ (i:Nat) (x:D),ds[i]? = some x→Rep ρ O w x (vs.getD i undef)) →
 ∃ v,(callFunc f vs).run C.P w=.ok (.value v) w∧Rep ρ O w d v
theorem a7Q {f:Nat}{g:Operand→D}{O:Nat→Prop}{first captured:List D}{fop:Operand}{args:Array Operand}{tys:Array Nat}{ρ:Lk}{a:Act}{w:World}(ho:o.op=.call ⟨.value fop,args,tys⟩)
  (hf:g fop=.clo (.func f) first captured) (hg:∀ x,Rep ρ O w (g x) (a.eval x)) :
  ∃ vs,(execOp a.eval o).run C.P w=(callFunc f vs).run C.P w∧vs.size=(first++args.toList.map g++captured).length ∧
   ∀ (i:Nat) (d:D),(first++args.toList.map g++captured)[i]? = some d→Rep ρ O w d (vs.getD i undef):=by
 have hfr:=hg fop;rw [hf] at hfr;generalize hv:a.eval fop=v at hfr;cases hfr with
 | clo hn hc h1 h2 =>
  rename_i fs cs;refine ⟨fs++args.map a.eval++cs,?_,by simp [hn,hc],fun i d hd=>?_⟩
  ·unfold execOp
   simp only [ho];rw [run_bind]
   have:(resolve a.eval ⟨.value fop,args,tys⟩ o.type).run C.P w=.ok { target:=.fn (.func f) cs,args:=fs++args.map a.eval } w:=by
    unfold resolve;simp only [hv];rfl
   rw [this];dsimp only;unfold invoke;rfl
  ·rw [List.append_assoc] at hd
   rcases Nat.lt_or_ge i first.length with hi|hi
   ·rw [List.getElem?_append_left hi] at hd
    have:(fs++args.map a.eval++cs).getD i undef=fs.getD i undef:=by
     simp only [Array.getD_eq_getD_getElem?];rw [Array.append_assoc,Array.getElem?_append_left (by omega)]
    rw [this];exact h1 i d hd
   ·rw [List.getElem?_append_right hi] at hd
    rcases Nat.lt_or_ge (i - first.length) args.size with hj|hj
    ·rw [List.getElem?_append_left (by simpa using hj)] at hd
     simp at hd;obtain ⟨x,hx,rfl⟩:=hd
     have:(fs++args.map a.eval++cs).getD i undef=a.eval x:=by
      simp only [Array.getD_eq_getD_getElem?];rw [Array.append_assoc,Array.getElem?_append_right (by omega),Array.getElem?_append_left (by simp;omega),hn];simp [hx]
     rw [this];exact hg x
    ·rw [List.getElem?_append_right (by simpa using hj)] at hd
     have:(fs++args.map a.eval++cs).getD i undef=cs.getD (i - first.length - args.size) undef:=by
      simp only [Array.getD_eq_getD_getElem?];rw [Array.append_assoc,Array.getElem?_append_right (by omega),Array.getElem?_append_right (by simp;omega),hn];simp
     rw [this];exact h2 _ d (by simpa using hd)
theorem OkL.nat {f:Nat}{first captured ds:List D}{fop:Operand}{args:Array Operand}{tys:Array Nat}{d:D}(hw:a0N ops s.env o=some true)(ho:o.op=.call ⟨.value fop,args,tys⟩)
  (hf:a1g s.env fop=.clo (.func f) first captured) (hds:first++args.toList.map (a1g s.env)++captured=ds) (hc:a4g C f ds d)
  (h:OkL C F ops os ⟨a1N s.env o.dst d,s.H,s.n+1⟩ K):OkL C F ops (o::os) s K :=
 OkL.step hw (fun ρ a w hs=>by
  obtain ⟨vs,h1,h2,h3⟩:=a7Q (C:=C) (a:=a) ho hf (a0S hs.env);rw [hds] at h2 h3;obtain ⟨v,h4,h5⟩:=hc _ _ _ vs h2 h3;exact ⟨v,ρ,w,.inl (h1.trans h4),.pure hs h5,fun e he=>Nat.lt_succ_of_lt (hs.gen e he)⟩) h
theorem a0s.nat {H:Hp}{g f:Nat}{env:Env}{first captured ds:List D}{fop:Operand}{args:Array Operand}{tys:Array Nat}{d:D}(hw:a0N ops env o=some true)(ho:o.op=.call ⟨.value fop,args,tys⟩)
  (hf:a1g env fop=.clo (.func f) first captured) (hds:first++args.toList.map (a1g env)++captured=ds) (hc:a4g C f ds d):a0s C F ops H g env o d none:=by
 refine ⟨by simp,fun He ρ a w m hsub fr hne hr=>.inr ⟨a1u hr hw,.inl ?_⟩⟩;obtain ⟨g',h1,h2⟩:=a2v hr;have hfop:fop∈o.op.operands:=by rw [ho];simp [Op.operands,Call.operands]
 have harg:∀ x∈args.toList,a1g env x=g' x:=fun x hx=>h1 x (by rw [ho];simp [Op.operands,Call.operands];right;simpa using hx)
 rw [h1 fop hfop] at hf;rw [a1K harg] at hds;obtain ⟨vs,q1,q2,q3⟩:=a7Q (C:=C) (g:=g') ho hf h2;rw [hds] at q2 q3;obtain ⟨v,h4,h5⟩:=hc _ _ _ vs q2 q3;exact ⟨v,ρ,w,q1.trans h4,m,.refl _ _ _,fun _ _ _=>rfl,h5⟩
end
def d1D (op:BinOp)(k k':IntKind)(b:Int):Bool:=match op with
 | .quo | .rem=>decide (k=k') && !(decide (b=0))
 | .shl | .shr=>decide (0≤b)
 | _=>decide (k=k')
def okV (op:BinOp)(x y:Value):Bool:=match x,y with
 | .int k _,.int k' b=>d1D op k k' b
 | .string a,.string b=>match op with
  | .add=>Nat.ble (a.size+b.size) 9223372036854775807
  | _=>true
 | _,_=>true
theorem c4o {op:BinOp}{x y v:Value}{p:Prop}(h:c7j op x y=some (v,p))(hk:okV op x y=true):p:=by
 unfold c7j at h;unfold okV at hk;split at h
 ·dsimp only at hk
  unfold d1D at hk;cases op<;>simp only [Option.some.injEq,Prod.mk.injEq] at h<;>obtain ⟨_,rfl⟩:=h<;>simpa using hk
 ·cases op<;>simp only [Option.some.injEq,Prod.mk.injEq,reduceCtorEq] at h<;>obtain ⟨_,rfl⟩:=h<;>first|trivial|(dsimp only at hk;exact Nat.le_of_ble_eq_true hk)
 ·cases h
def okE (ti:TI)(x y:D):Bool:=match ti,x,y with
 | .slice ..,.sl false _ es,.prim (.slice none _ _)=>!es.isEmpty
 | _,_,_=>true
theorem d1C {ti:TI}{x y:D}{b:Bool}{p:Prop}(h:eqV ti x y=some (b,p))(hk:okE ti x y=true):p:=by
 unfold eqV at h;split at h<;>first|(cases h;done)|skip
 all_goals (simp only [Option.some.injEq,Prod.mk.injEq] at h;obtain ⟨_,rfl⟩:=h)
 all_goals first
  | trivial
  | (simp only [okE] at hk;intro he;subst he;simp at hk)
def c6j (tt:Nat→Option a0k)(op:BinOp)(t:Nat)(x y:D):Bool:=match x,y with
 | .prim (.int k a),.prim (.int k' b)=>okV op (.int k a) (.int k' b)
 | .prim (.string a),.prim (.string b)=>okV op (.string a) (.string b)
 | x,y=>match tt t with
  | some i=>okE i.ti x y
  | none=>true
theorem c1P {tt:Nat→Option a0k}{op:BinOp}{t:Nat}{x y d:D}{p:Prop}(h:c7M tt op t x y=some (d,p))(hk:c6j tt op t x y=true):p:=by
 unfold c7M at h;unfold c6j at hk;split at h
 ·dsimp only at hk
  split at h<;>first|(cases h;done)|skip
  rename_i hb;cases h;exact c4o hb hk
 ·dsimp only at hk
  split at h<;>first|(cases h;done)|skip
  rename_i hb;cases h;exact c4o hb hk
 ·rename_i h1 h2
  split at hk
  ·exact absurd rfl (h1 _ _ _ _ rfl)
  ·exact absurd rfl (h2 _ _ rfl)
  ·split at h<;>first|(cases h;done)|skip
   rename_i i hi;split at h<;>first|(cases h;done)|skip
   rename_i b q hb;split at h<;>first|(cases h;done)|skip
   cases h;rw [hi] at hk;exact d1C hb hk
def b5K (ag:Bool)(sz:Nat)(d:D):Bool:=match ag with
 | true=>match d with
  | .agg ds=>Nat.beq ds.length sz
  | _=>false
 | false=>Nat.beq sz 1&&d.one
theorem a5L {ag:Bool}{sz:Nat}{d:D}(h:b5K ag sz d=true):a0Q ag sz d:=by
 unfold b5K at h;split at h
 ·split at h
  ·rw [← Nat.eq_of_beq_eq_true h];exact a0Q.agg
  ·cases h
 ·simp only [Bool.and_eq_true] at h
  rw [Nat.eq_of_beq_eq_true h.1];exact a0Q.one' h.2
def b4S (fs:List (Nat × Nat × Bool))(g:Operand→D):List (Nat × Operand)→List D→Bool
 | [],_=>true
 | (i,x)::r,cs=>match fs[i]? with
  | some (o,sz,ag)=>b5K ag sz (g x)&&Nat.ble (o+sz) cs.length&&b4S fs g r (b0Z cs o (a0I ag (g x)))
  | none=>true
theorem b2p {fs:List (Nat × Nat × Bool)}{g:Operand→D}:∀ {ps:List (Nat × Operand)} {cs cs':List D} {p:Prop},a6s fs g ps cs=some (cs',p)→b4S fs g ps cs=true→p
 | [],cs,cs',p,h,_=>by simp only [a6s,Option.some.injEq,Prod.mk.injEq] at h;obtain ⟨_,rfl⟩:=h;trivial
 | (i,x)::r,cs,cs',p,h,hk=>by
  simp only [a6s] at h;simp only [b4S] at hk;cases hf:fs[i]? with
  | none=>simp [hf] at h
  | some q =>
   obtain ⟨o,sz,ag⟩:=q;simp only [hf] at h hk;cases hr:a6s fs g r (b0Z cs o (a0I ag (g x))) with
   | none=>simp [hr] at h
   | some q =>
    obtain ⟨c2,p2⟩:=q;simp only [hr,Option.some.injEq,Prod.mk.injEq] at h;obtain ⟨_,rfl⟩:=h;simp only [Bool.and_eq_true] at hk;exact ⟨⟨a5L hk.1.1,Nat.le_of_ble_eq_true hk.1.2⟩,b2p hr hk.2⟩
def d1A (n:Nat):D→Bool
 | .prim (.int _ x)=>decide (0≤x)&&decide (x≤n)
 | _=>true
theorem b0Q {n m:Nat}{d:D}{p:Prop}(h:b1y n d=some (m,p))(hk:d1A n d=true):p:=by
 unfold b1y at h;split at h
 ·simp only [Option.some.injEq,Prod.mk.injEq] at h;obtain ⟨_,rfl⟩:=h
  simpa [d1A] using hk
 ·cases h
def b8N (n:Nat)(lo hi:Option D):Bool:=match hi with
 | none=>match lo with
  | none=>true
  | some l=>d1A n l
 | some h=>d1A n h&&(match b1y n h with
  | some (m,_)=>match lo with
   | none=>true
   | some l=>d1A m l
  | none=>true)
theorem b0R {n a b:Nat}{lo hi:Option D}{p:Prop}(h:a4i n lo hi=some (a,b,p))(hk:b8N n lo hi=true):p:=by
 unfold a4i at h;unfold b8N at hk;cases hi with
 | none =>
  cases lo with
  | none=>simp only [Option.some.injEq,Prod.mk.injEq] at h;obtain ⟨_,_,rfl⟩:=h;trivial
  | some l =>
   dsimp only at h hk;split at h<;>first|(cases h;done)|skip
   rename_i hb;cases h;exact b0Q hb hk
 | some hh =>
  dsimp only at h hk;simp only [Bool.and_eq_true] at hk;split at h<;>first|(cases h;done)|skip
  rename_i m q hb;rw [hb] at hk;cases lo with
  | none=>cases h;exact b0Q hb hk.1
  | some l =>
   dsimp only at h hk;split at h<;>first|(cases h;done)|skip
   rename_i hb2;cases h;exact ⟨b0Q hb hk.1,b0Q hb2 hk.2⟩
def b3G (tt:Nat→Option a0k)(t:Nat)(x:D)(lo hi:Option D):Bool:=match tt t with
 | some i=>match i.ti,x with
  | .string,.prim (.string s)=>b8N s.size lo hi
  | .slice _ esz _ _,.sl _ sz es=>b8N es.length lo hi&&Nat.beq esz sz
  | .slice _ esz _ _,.osl _ _ sz _ len=>b8N len lo hi&&Nat.beq esz sz&&(match a4i len lo hi with
   | some (l,h,_)=>Nat.blt l h||Nat.beq l 0
   | none=>true)
  | _,_=>true
 | none=>true
theorem b5V {tt:Nat→Option a0k}{t:Nat}{x d:D}{lo hi:Option D}{p:Prop}(h:b2E tt t x lo hi=some (d,p))(hk:b3G tt t x lo hi=true):p:=by
 unfold b2E at h;unfold b3G at hk;cases hi':tt t with
 | none=>simp [hi'] at h
 | some i =>
  simp only [hi'] at h hk;split at h<;>first|(cases h;done)|skip
  ·rename_i hti
   simp only [hti] at hk;split at h<;>first|(cases h;done)|skip
   rename_i hb;cases h;exact b0R hb hk
  ·rename_i hti
   simp only [hti,Bool.and_eq_true] at hk;split at h<;>first|(cases h;done)|skip
   rename_i hb;cases h;exact ⟨b0R hb hk.1,Nat.eq_of_beq_eq_true hk.2⟩
  ·rename_i hti
   simp only [hti,Bool.and_eq_true] at hk;split at h<;>first|(cases h;done)|skip
   rename_i l hh q hb;cases h;simp only [hb] at hk;refine ⟨b0R hb hk.1.1,Nat.eq_of_beq_eq_true hk.1.2,?_⟩
   have:=hk.2
   simp only [Bool.or_eq_true] at this;exact this.imp Nat.blt_eq.mp Nat.eq_of_beq_eq_true
theorem b1R {k:IntKind}:∀ {r:List D} {a:Int} {d:D} {p:Prop},a4q k a r=some (d,p)→p
 | [],a,d,p,h=>by simp only [a4q,Option.some.injEq,Prod.mk.injEq] at h;obtain ⟨_,rfl⟩:=h;trivial
 | x::r,a,d,p,h=>by
  unfold a4q at h;split at h
  ·rename_i h1;cases h1
  ·rename_i h1;cases h1;exact b1R h
  ·cases h
theorem b1Q {k:IntKind}:∀ {r:List D} {a:Int} {d:D} {p:Prop},a4p k a r=some (d,p)→p
 | [],a,d,p,h=>by simp only [a4p,Option.some.injEq,Prod.mk.injEq] at h;obtain ⟨_,rfl⟩:=h;trivial
 | x::r,a,d,p,h=>by
  unfold a4p at h;split at h
  ·rename_i h1;cases h1
  ·rename_i h1;cases h1;exact b1Q h
  ·cases h
theorem b5B {tt:Nat→Option a0k}{b:Builtin}{tys:List Nat}{args:List D}{d:D}{p:Prop}(h:a5F tt b tys args=some (d,p)):p:=by
 unfold a5F at h
 (repeat' split at h)<;>first|(cases h;done)|(cases h;trivial)|exact b1R h|exact b1Q h
def okP (tt:Nat→Option a0k)(g:Operand→D):Op→Bool
 | .pick c a b=>match g c with
  | .prim (.bool true)=>(asB (g a)).2
  | .prim (.bool false)=>(asB (g b)).2
  | _=>true
 | .build t ps=>match tt t with
  | some i=>match b0U i.ti with
   | some fs=>b4S fs g ps.toList (i.zero.cells.toList.map .prim)
   | none=>true
  | none=>true
 | .binOp op t x y _=>c6j tt op t (g x) (g y)
 | .slice t x lo hi none=>b3G tt t (g x) (lo.map g) (hi.map g)
 | .indexAddr t x ix=>match tt t with
  | some i=>match i.ti,g ix with
   | .arr n _ _,.prim (.int _ j)=>decide (0≤j)&&decide (j<n)
   | .slice _ esz _ _,.prim (.int _ j)=>match g x with
    | .osl _ _ sz _ len=>decide (0≤j)&&decide (j<len)&&Nat.beq esz sz
    | _=>true
   | _,_=>true
  | none=>true
 | .index t x ix=>match tt t with
  | some i=>match i.ti,g x,g ix with
   | .string,.prim (.string s),.prim (.int _ j)=>decide (0≤j)&&decide (j<s.size)
   | _,_,_=>true
  | none=>true
 | _=>true
theorem b8R {tt:Nat→Option a0k}{g:Operand→D}{op:Op}{d:D}{p:Prop}(h:evP tt g op=some (d,p))(hk:okP tt g op=true):p:=by
 unfold evP at h;split at h<;>first|(cases h;done)|skip
 ·cases h;trivial
 ·cases h;trivial
 ·rename_i c a b
  simp only [okP] at hk;split at h<;>first|(cases h;done)|skip
  rename_i t hc;rw [hc] at hk;cases h;cases t
  ·exact ⟨fun h=>(by cases h),fun _=>hk⟩
  ·exact ⟨fun _=>hk,fun h=>(by cases h)⟩
 ·rename_i t ps
  simp only [okP] at hk;unfold b1z at h;split at h<;>first|(cases h;done)|skip
  rename_i i hi;simp only [hi] at hk;split at h<;>first|(cases h;done)|skip
  rename_i fs hf;simp only [hf] at hk;split at h<;>first|(cases h;done)|skip
  rename_i hfl;cases h;exact b2p hfl hk
 ·split at h<;>first|(cases h;done)|(cases h;trivial)
 ·exact c1P h hk
 ·split at h<;>first|(cases h;done)|(cases h;trivial)
 ·split at h<;>first|(cases h;done)|skip
  split at h<;>first|(cases h;done)|(cases h;trivial)
 ·cases h;trivial
 ·exact b5V h hk
 ·(repeat' split at h)<;>first|(cases h;done)|(cases h;trivial)
 ·(repeat' split at h)<;>first|(cases h;done)|(cases h;trivial)
 ·rename_i t x ix
  simp only [okP] at hk;split at h<;>first|(cases h;done)|skip
  rename_i i hi;simp only [hi] at hk;split at h<;>first|(cases h;done)|skip
  ·rename_i h1 h2
   simp only [h1,h2] at hk;split at h<;>first|(cases h;done)|skip
   cases h;simpa using hk
  ·rename_i h1 h2
   simp only [h1,h2] at hk;split at h<;>first|(cases h;done)|skip
   rename_i h3;cases h;simp only [h3,Bool.and_eq_true,decide_eq_true_eq] at hk;exact ⟨hk.1.1,hk.1.2,Nat.eq_of_beq_eq_true hk.2⟩
 ·rename_i t x ix
  simp only [okP] at hk;split at h<;>first|(cases h;done)|skip
  rename_i i hi;simp only [hi] at hk;split at h<;>first|(cases h;done)|skip
  rename_i h1 h2 h3;simp only [h1,h2,h3] at hk;cases h;simpa using hk
 ·(repeat' split at h)<;>first|(cases h;done)|(cases h;trivial)
 ·exact b5B h
def b5U (ag:Bool)(sz:Nat):List D→Bool
 | []=>true
 | d::l=>b5K ag sz d&&b5U ag sz l
theorem b4R {ag:Bool}{sz:Nat}:∀ {l:List D},b5U ag sz l=true→b4t ag sz l
 | [],_=>trivial
 | [d],h=>by simp only [b5U,Bool.and_eq_true] at h;exact a5L h.1
 | d::d'::l,h=>by simp only [b5U,Bool.and_eq_true] at h;exact ⟨a5L h.1,b4R (by simp only [b5U,Bool.and_eq_true];exact h.2)⟩
def okL (tt:Nat→Option a0k)(H:Hp)(g:Operand→D):Op→Bool
 | .load t x=>match tt t with
  | some i=>match g x with
   | .optr k gg sz j off=>match Hp.get H k with
    | some e=>match e.es[j]? with
     | some d=>Nat.beq gg e.g&&Nat.beq sz e.sz&&(bif i.ag then Nat.ble (off+i.sz) d.cells.length else true)
     | none=>true
    | none=>true
   | .pptr d=>match i.ag with
    | true=>match d with
     | .agg ds=>Nat.beq ds.length i.sz
     | _=>true
    | false=>a9V d
   | _=>true
  | none=>true
 | .box t x=>match tt t with
  | some i=>b5K i.ag i.sz (g x)
  | none=>true
 | .buildSlice t len ps=>match tt t with
  | some i=>match i.ti with
   | .slice e esz _ _=>match len with
    | 0=>true
    | len+1=>match tt e with
     | some ie=>match a3n g 0 ps.toList with
      | some es=>b5U ie.ag esz es&&Nat.beq es.length (len+1)&&Nat.ble ((len+1)*esz) 16777216&&Nat.ble 1 esz
      | none=>true
     | none=>true
   | _=>true
  | none=>true
 | _=>true
theorem b8Q {tt:Nat→Option a0k}{H:Hp}{n k:Nat}{g:Operand→D}{op:Op}{d:D}{ne:Option Ent}{p:Prop}(h:evL tt H n k g op=some (d,ne,p))(hk:okL tt H g op=true):p:=by
 unfold evL at h;split at h<;>first|(cases h;done)|skip
 ·simp only [okL] at hk
  split at h<;>first|(cases h;done)|skip
  rename_i i hi;simp only [hi] at hk;split at h<;>first|(cases h;done)|skip
  ·rename_i h1
   simp only [h1] at hk;split at h<;>first|(cases h;done)|skip
   rename_i e he;simp only [he] at hk;split at h<;>first|(cases h;done)|skip
   rename_i d1 hd;simp only [hd] at hk;split at h<;>first|(cases h;done)|skip
   cases h;simp only [Bool.and_eq_true] at hk;exact ⟨Nat.eq_of_beq_eq_true hk.1.1,Nat.eq_of_beq_eq_true hk.1.2,hk.2⟩
  ·rename_i h1
   simp only [h1] at hk;split at h
   ·rename_i ha
    simp only [ha] at hk;split at h<;>first|(cases h;done)|skip
    cases h;exact hk
   ·rename_i ha
    simp only [ha] at hk;cases h;exact hk
 ·split at h<;>first|(cases h;done)|(cases h;trivial)
 ·simp only [okL] at hk
  split at h<;>first|(cases h;done)|skip
  rename_i i hi;simp only [hi] at hk;cases h;exact a5L hk
 ·simp only [okL] at hk
  split at h<;>first|(cases h;done)|skip
  rename_i i hi;simp only [hi] at hk;split at h<;>first|(cases h;done)|skip
  rename_i h1;simp only [h1] at hk;split at h
  ·split at h<;>first|(cases h;done)|(cases h;trivial)
  ·dsimp only at hk
   split at h<;>first|(cases h;done)|skip
   rename_i h2;simp only [h2] at hk;split at h<;>first|(cases h;done)|skip
   rename_i h3;simp only [h3,Bool.and_eq_true] at hk;cases h;exact ⟨b4R hk.1.1.1,Nat.eq_of_beq_eq_true hk.1.1.2,hk.1.2,hk.2⟩
def okS (tt:Nat→Option a0k)(H:Hp)(g:Operand→D):Op→Bool
 | .store t x y=>match tt t with
  | some i=>match g x with
   | .optr k gg sz _ off=>match Hp.get H k with
    | some e=>b5K i.ag i.sz (g y)&&Nat.beq gg e.g&&Nat.beq sz e.sz&&Nat.ble (off+i.sz) e.sz
    | none=>true
   | _=>true
  | none=>true
 | _=>true
theorem c4n {tt:Nat→Option a0k}{H:Hp}{g:Operand→D}{op:Op}{k:Nat}{e':Ent}{p:Prop}(h:evS tt H g op=some (k,e',p))(hk:okS tt H g op=true):p:=by
 unfold evS at h;split at h<;>first|(cases h;done)|skip
 simp only [okS] at hk;split at h<;>first|(cases h;done)|skip
 rename_i i hi;simp only [hi] at hk;split at h<;>first|(cases h;done)|skip
 rename_i h1;simp only [h1] at hk;split at h<;>first|(cases h;done)|skip
 rename_i h2;simp only [h2,Bool.and_eq_true] at hk;split at h<;>first|(cases h;done)|skip
 cases h;exact ⟨a5L hk.1.1.1,Nat.eq_of_beq_eq_true hk.1.1.2,Nat.eq_of_beq_eq_true hk.1.2,hk.2⟩
def c6k (H:Hp)(esz:Nat):D→Bool
 | .sl _ sz _=>Nat.beq sz esz
 | .osl k g sz i len=>match Hp.get H k with
  | some e=>Nat.beq g e.g&&Nat.beq sz e.sz&&Nat.beq sz esz&&Nat.ble (i+len) e.es.length
  | none=>true
 | _=>true
theorem b4U {H:Hp}{esz:Nat}{d:D}{es:List D}{p:Prop}(h:b6y H esz d=some (es,p))(hk:c6k H esz d=true):p:=by
 unfold b6y at h;split at h<;>first|(cases h;done)|skip
 ·cases h;exact Nat.eq_of_beq_eq_true hk
 ·simp only [c6k] at hk
  split at h<;>first|(cases h;done)|skip
  rename_i h1;simp only [h1,Bool.and_eq_true] at hk;cases h;exact ⟨Nat.eq_of_beq_eq_true hk.1.1.1,Nat.eq_of_beq_eq_true hk.1.1.2,Nat.eq_of_beq_eq_true hk.1.2,Nat.le_of_ble_eq_true hk.2⟩
 ·cases h;trivial
def okA (tt:Nat→Option a0k)(H:Hp)(g:Operand→D):Op→Bool
 | .call ⟨.builtin .append,args,tys⟩=>match args.toList with
  | [s,x]=>match tys.toList with
   | [t,_]=>match tt t with
    | some i=>match i.ti with
     | .slice e esz eby _=>c6k H esz (g x)&&Nat.ble 1 eby&&Nat.ble 1 esz&&(match b6y H esz (g x) with
      | some (news,_)=>match g s with
       | .osl k1 g1 sz _ len=>match Hp.get H k1 with
        | some e1=>Nat.beq g1 e1.g&&Nat.beq sz e1.sz&&Nat.beq sz esz&&Nat.beq e1.T e&&Nat.ble len e1.es.length&&Nat.ble ((len+news.length)*eby) 140737488355328
        | none=>true
       | _=>Nat.ble (news.length*eby) 140737488355328
      | none=>true)
     | _=>true
    | none=>true
   | _=>true
  | _=>true
 | _=>true
theorem b8M {tt:Nat→Option a0k}{H:Hp}{n k:Nat}{g:Operand→D}{op:Op}{d:D}{H':Hp}{p:Prop}(h:evA tt H n k g op=some (d,H',p))(hk:okA tt H g op=true):p:=by
 unfold evA at h;split at h<;>first|(cases h;done)|skip
 simp only [okA] at hk;split at h<;>first|(cases h;done)|skip
 rename_i h1;simp only [h1] at hk;split at h<;>first|(cases h;done)|skip
 rename_i h2;simp only [h2] at hk;split at h<;>first|(cases h;done)|skip
 split at h<;>first|(cases h;done)|skip
 rename_i h3;simp only [h3] at hk;split at h<;>first|(cases h;done)|skip
 rename_i h4;simp only [h4] at hk;split at h<;>first|(cases h;done)|skip
 rename_i h5;simp only [h5,Bool.and_eq_true] at hk;obtain ⟨⟨⟨k1,k2⟩,k3⟩,k4⟩:=hk;split at h<;>first|(cases h;done)|skip
 ·rename_i h6
  simp only [h6] at k4;split at h<;>first|(cases h;done)|skip
  rename_i h7;simp only [h7,Bool.and_eq_true] at k4;cases h;exact ⟨b4U h5 k1,Nat.eq_of_beq_eq_true k4.1.1.1.1.1,Nat.eq_of_beq_eq_true k4.1.1.1.1.2,Nat.eq_of_beq_eq_true k4.1.1.1.2,Nat.eq_of_beq_eq_true k4.1.1.2,Nat.le_of_ble_eq_true k4.1.2,Nat.le_of_ble_eq_true k4.2,
   Nat.le_of_ble_eq_true k2,Nat.le_of_ble_eq_true k3⟩
 ·rename_i h6
  simp only [h6] at k4;cases h;exact ⟨b4U h5 k1,Nat.le_of_ble_eq_true k4,Nat.le_of_ble_eq_true k2,Nat.le_of_ble_eq_true k3⟩
def okM (tt:Nat→Option a0k)(g:Operand→D):Op→Bool
 | .makeSlice t l c=>match tt t with
  | some i=>match i.ti with
   | .slice _ _ eby _=>match g l with
    | .prim (.int _ a)=>match g c with
     | .prim (.int _ b)=>decide (0≤a)&&decide (a≤b)&&decide ((eby:Int)*b≤281474976710656)&&decide (b≤9223372036854775807)
     | _=>true
    | _=>true
   | _=>true
  | none=>true
 | _=>true
theorem d1E {tt:Nat→Option a0k}{n k:Nat}{g:Operand→D}{op:Op}{d:D}{e:Ent}{p:Prop}(h:evM tt n k g op=some (d,e,p))(hk:okM tt g op=true):p:=by
 unfold evM at h;split at h<;>first|(cases h;done)|skip
 simp only [okM] at hk;split at h<;>first|(cases h;done)|skip
 rename_i h1;simp only [h1] at hk;split at h<;>first|(cases h;done)|skip
 rename_i h2;simp only [h2] at hk;split at h<;>first|(cases h;done)|skip
 rename_i h3;simp only [h3] at hk;split at h<;>first|(cases h;done)|skip
 rename_i h4;simp only [h4,Bool.and_eq_true,decide_eq_true_eq] at hk;cases h;exact ⟨hk.1.1.1,hk.1.1.2,hk.1.2,hk.2⟩
def okQ (xt:Nat→Option XI)(g:Operand→D):Op→Bool
 | .binOp _ t x _ _=>match xt t with
  | some (.strs n)=>match g x with
   | .agg l=>Nat.beq l.length n
   | _=>true
  | _=>true
 | _=>true
theorem c4m {tt:Nat→Option a0k}{xt:Nat→Option XI}{g:Operand→D}{op:Op}{d:D}{p:Prop}(h:evQ tt xt g op=some (d,p))(hk:okQ xt g op=true):p:=by
 unfold evQ at h;split at h<;>first|(cases h;done)|skip
 ·(repeat' split at h)<;>first|(cases h;done)|(cases h;trivial)
 ·(repeat' split at h)<;>first|(cases h;done)|(cases h;trivial)
 ·simp only [okQ] at hk
  split at h<;>first|(cases h;done)|skip
  rename_i h1;simp only [h1] at hk;split at h<;>first|(cases h;done)|skip
  rename_i h2;simp only [h2] at hk;split at h<;>first|(cases h;done)|skip
  split at h<;>first|(cases h;done)|skip
  split at h<;>first|(cases h;done)|skip
  cases h;exact hk
def fzN {α:Type}(n:Nat)(k:Nat→α):α:=match n with
 | 0=>k 0
 | m+1=>k (m+1)
def fzZ {α:Type}(z:Int)(k:Int→α):α:=match z with
 | .ofNat n=>match n with
  | 0=>k (.ofNat 0)
  | m+1=>k (.ofNat (m+1))
 | .negSucc n=>match n with
  | 0=>k (.negSucc 0)
  | m+1=>k (.negSucc (m+1))
def fzB {α:Type}:List UInt8→(List UInt8→α)→α
 | [],k=>k []
 | b::l,k=>fzN b.toNat fun n=>fzB l fun l'=>k (UInt8.ofNat n::l')
def fzV {α:Type}(v:Value)(k:D→α):α:=match v with
 | .int kd z=>fzZ z fun z'=>k (.prim (.int kd z'))
 | .bool b=>match b with
  | true=>k (.prim (.bool true))
  | false=>k (.prim (.bool false))
 | .string s=>fzB s.data.toList fun l=>k (.prim (.string ⟨l.toArray⟩))
 | v=>k (.prim v)
def fz1 {α:Type}(d:D)(k:D→α):α:=match d with
 | .prim v=>fzV v k
 | .osl a g sz i len=>fzN a fun a=>fzN g fun g=>fzN i fun i=>fzN len fun len=>k (.osl a g sz i len)
 | .optr a g sz i off=>fzN a fun a=>fzN g fun g=>fzN i fun i=>fzN off fun off=>k (.optr a g sz i off)
 | d=>k d
def fzL {α:Type}:List D→(List D→α)→α
 | [],k=>k []
 | d::l,k=>fz1 d fun d'=>fzL l fun l'=>k (d'::l')
def fzD {α:Type}(d:D)(k:D→α):α:=match d with
 | .agg l=>fzL l fun l'=>k (.agg l')
 | .tup l=>fzL l fun l'=>k (.tup l')
 | .sl nn sz es=>fzL es fun es'=>k (.sl nn sz es')
 | d=>fz1 d k
theorem a8f {α:Type}(n:Nat)(k:Nat→α):fzN n k=k n:=by cases n<;>rfl
theorem d1f {α:Type}(z:Int)(k:Int→α):fzZ z k=k z:=by
 cases z with
 | ofNat n=>cases n<;>rfl
 | negSucc n=>cases n<;>rfl
theorem c4c {α:Type}:∀ (l:List UInt8) (k:List UInt8→α),fzB l k=k l
 | [],_=>rfl
 | b::l,k=>by simp only [fzB,a8f,c4c l];congr 2;exact UInt8.ofNat_toNat
theorem d1e {α:Type}(v:Value)(k:D→α):fzV v k=k (.prim v):=by
 unfold fzV;split
 ·exact d1f _ _
 ·rename_i b;cases b<;>rfl
 ·rw [c4c]
 ·rfl
theorem c4b {α:Type}(d:D)(k:D→α):fz1 d k=k d:=by
 unfold fz1;split
 ·exact d1e _ _
 ·simp only [a8f]
 ·simp only [a8f]
 ·rfl
theorem b4C {α:Type}:∀ (l:List D) (k:List D→α),fzL l k=k l
 | [],_=>rfl
 | d::l,k=>by simp only [fzL,c4b,b4C l]
theorem a9L {α:Type}(d:D)(k:D→α):fzD d k=k d:=by
 unfold fzD;split
 ·exact b4C _ _
 ·exact b4C _ _
 ·exact b4C _ _
 ·exact c4b _ _
def b6r (f:D→Bool):List D→Bool
 | []=>true
 | d::l=>f d&&b6r f l
def b4e (f:D→Bool):D→Bool
 | .agg l=>b6r f l
 | d=>f d
def a6B:Nat→D→Bool
 | 0,_=>false
 | n+1,d=>match d with
  | .any=>true
  | .prim _=>true
  | .agg l=>b6r (a6B n) l
  | .tup l=>b6r (a6B n) l
  | .sl _ _ es=>b6r (b4e (a6B n)) es
  | .pptr e=>b4e (a6B n) e
  | .clo _ a b=>b6r (a6B n) a&&b6r (a6B n) b
  | .mp a b=>b6r (a6B n) a&&b6r (a6B n) b
  | .ifc _ d=>a6B n d
  | _=>false
theorem a3k {f:D→Bool}:∀ {l:List D},b6r f l=true→∀ d∈l,f d=true
 | [],_,_,h=>by simp at h
 | x::l,h,d,hd=>by
  simp only [b6r,Bool.and_eq_true] at h;rcases List.mem_cons.1 hd with rfl|hd
  ·exact h.1
  ·exact a3k h.2 d hd
theorem b1A {f:D→Bool}{d:D}(h:b4e f d=true):∀ c∈d.cells,f c=true:=by
 unfold b4e at h;split at h
 ·exact a3k h
 ·rename_i hne
  intro c hc;cases d<;>simp only [D.cells,List.mem_singleton] at hc<;>first|(subst hc;exact h)|exact absurd rfl (hne _)
theorem a0T:∀ {n:Nat} {d:D},a6B n d=true→a2c d
 | 0,_,h=>by cases h
 | n+1,d,h=>by
  simp only [a6B] at h;split at h
  ·exact .any
  ·exact .prim _
  ·exact .agg fun d hd=>a0T (a3k h d hd)
  ·exact .tup fun d hd=>a0T (a3k h d hd)
  ·exact .sl fun e he c hc=>a0T (b1A (a3k h e he) c hc)
  ·exact .pptr fun c hc=>a0T (b1A h c hc)
  ·simp only [Bool.and_eq_true] at h
   exact .clo (fun d hd=>a0T (a3k h.1 d hd)) (fun d hd=>a0T (a3k h.2 d hd))
  ·simp only [Bool.and_eq_true] at h
   exact .mp (fun d hd=>a0T (a3k h.1 d hd)) (fun d hd=>a0T (a3k h.2 d hd))
  ·exact .ifc (a0T h)
  ·cases h
def c1I {α β:Type}(f:α→Option β):List α→Option (List β)
 | []=>some []
 | x::l=>match f x with
  | some y=>match c1I f l with
   | some r=>some (y::r)
   | none=>none
  | none=>none
theorem a6y {α β:Type}{f:α→Option β}:∀ {l:List α} {r:List β},c1I f l=some r→l.length=r.length∧∀ (i:Nat) (x:α) (y:β),l[i]? = some x→r[i]? = some y→f x=some y
 | [],r,h=>by simp only [c1I,Option.some.injEq] at h;subst h;simp
 | x::l,r,h=>by
  simp only [c1I] at h;split at h<;>first|(cases h;done)|skip
  rename_i y hy;split at h<;>first|(cases h;done)|skip
  rename_i r' hr;cases h;obtain ⟨h1,h2⟩:=a6y hr;refine ⟨by simp [h1],fun i a b ha hb=>?_⟩;cases i with
  | zero=>simp at ha hb;subst ha hb;exact hy
  | succ i=>exact h2 i a b (by simpa using ha) (by simpa using hb)
theorem a7u {α β:Type}{f:α→Option β}{l:List α}{r:List β}(h:c1I f l=some r):∀ y∈r,∃ x∈l,f x=some y:=fun y hy=>by
 obtain ⟨h1,h2⟩:=a6y h;obtain ⟨i,hi,rfl⟩:=List.getElem_of_mem hy;exact ⟨l[i]'(by omega),List.getElem_mem _,h2 i _ _ (List.getElem?_eq_getElem (by omega)) (List.getElem?_eq_getElem hi)⟩
def b8c (f:D→Option D)(d:D):Option D:=match d with
 | .agg cs=>match c1I f cs with
  | some cs'=>some (.agg cs')
  | none=>none
 | d=>match f d with
  | some d'=>match a9V d' with
   | true=>some d'
   | false=>none
  | none=>none
def fzP:Nat→Hp→D→Option D
 | 0,_,_=>none
 | n+1,H,d=>match d with
  | .agg l=>match c1I (fzP n H) l with
   | some l'=>some (.agg l')
   | none=>none
  | .tup l=>match c1I (fzP n H) l with
   | some l'=>some (.tup l')
   | none=>none
  | .osl k g sz i len=>match Hp.get H k with
   | some e=>match Nat.beq g e.g&&Nat.beq sz e.sz&&Nat.ble (i+len) e.es.length with
    | true=>match c1I (b8c (fzP n H)) ((e.es.drop i).take len) with
     | some es'=>some (.sl false sz es')
     | none=>none
    | false=>none
   | none=>none
  | d=>match a6B 20 d with
   | true=>some d
   | false=>none
theorem a6R {d:D}(h:a9V d=true):d.cells=[d]:=by cases d<;>first|rfl|cases h
theorem a8e {H:Hp}{f:D→Option D}(hf:∀ d d',f d=some d'→Fz H [] d d'∧a2c d'){d d':D}(h:b8c f d=some d') :
  d'.cells.length=d.cells.length∧(∀ (q:Nat) (c c':D),d.cells[q]? = some c→d'.cells[q]? = some c'→Fz H [] c c')∧∀ c∈d'.cells,a2c c:=by
 unfold b8c at h;split at h
 ·rename_i cs
  split at h<;>first|(cases h;done)|skip
  rename_i cs' hm;cases h;obtain ⟨h1,h2⟩:=a6y hm;refine ⟨h1.symm,fun q c c' hc hc'=>(hf _ _ (h2 q c c' hc hc')).1,fun c hc=>?_⟩;obtain ⟨x,_,hx⟩:=a7u hm c hc;exact (hf _ _ hx).2
 ·rename_i hne
  split at h<;>first|(cases h;done)|skip
  rename_i d1 hd;split at h<;>first|(cases h;done)|skip
  rename_i hn;cases h;have hc:d.cells=[d]:=a6R (by cases d<;>first|rfl|exact absurd rfl (hne _));rw [hc,a6R hn];refine ⟨rfl,fun q c c' h1 h2=>?_,fun c hc=>?_⟩
  ·cases q with
   | zero=>simp at h1 h2;subst h1 h2;exact (hf _ _ hd).1
   | succ q=>simp at h1
  ·simp at hc;subst hc;exact (hf _ _ hd).2
theorem a6K {H:Hp}:∀ {n:Nat} {d d':D},fzP n H d=some d'→Fz H [] d d'∧a2c d'
 | 0,_,_,h=>by cases h
 | n+1,d,d',h=>by
  simp only [fzP] at h;split at h
  ·split at h<;>first|(cases h;done)|skip
   rename_i hm;cases h;obtain ⟨h1,h2⟩:=a6y hm;refine ⟨.agg h1 fun i a b ha hb=>(a6K (h2 i a b ha hb)).1,.agg fun c hc=>?_⟩;obtain ⟨x,_,hx⟩:=a7u hm c hc;exact (a6K hx).2
  ·split at h<;>first|(cases h;done)|skip
   rename_i hm;cases h;obtain ⟨h1,h2⟩:=a6y hm;refine ⟨.tup h1 fun i a b ha hb=>(a6K (h2 i a b ha hb)).1,.tup fun c hc=>?_⟩;obtain ⟨x,_,hx⟩:=a7u hm c hc;exact (a6K hx).2
  ·split at h<;>first|(cases h;done)|skip
   rename_i k g sz i len _ e he;split at h<;>first|(cases h;done)|skip
   rename_i hb;split at h<;>first|(cases h;done)|skip
   rename_i es' hm;cases h;simp only [Bool.and_eq_true] at hb;obtain ⟨⟨b1,b2⟩,b3⟩:=hb;have b3:=Nat.le_of_ble_eq_true b3;obtain ⟨h1,h2⟩:=a6y hm;have hget:∀ (j:Nat) (x:D),j<len→e.es[i+j]? = some x→((e.es.drop i).take len)[j]? = some x:=fun j x hj hx=>by
    rw [List.getElem?_take,if_pos hj,List.getElem?_drop];exact hx
   have hlen:es'.length=len:=by rw [← h1];simp;omega
   refine ⟨.osl he rfl (Nat.eq_of_beq_eq_true b1) (Nat.eq_of_beq_eq_true b2) b3 hlen (fun j x y hx hy=>?_) (fun j x y q c c' hx hy hc hc'=>?_),.sl fun e' he' c hc=>?_⟩
   ·have hj:j<len:=by rw [← hlen];exact (List.getElem?_eq_some_iff.1 hy).1
    exact (a8e (fun _ _ h=>a6K h) (h2 j x y (hget j x hj hx) hy)).1
   ·have hj:j<len:=by rw [← hlen];exact (List.getElem?_eq_some_iff.1 hy).1
    exact (a8e (fun _ _ h=>a6K h) (h2 j x y (hget j x hj hx) hy)).2.1 q c c' hc hc'
   ·obtain ⟨x,_,hx⟩:=a7u hm e' he'
    exact (a8e (fun _ _ h=>a6K h) hx).2.2 c hc
  ·split at h<;>first|(cases h;done)|skip
   rename_i hp;cases h;exact ⟨.refl _,a0T hp⟩
structure WR where
 iw:Nat
 ia:Option Nat
 e:Ent
 e':Ent
 R:Hp
def WR.tail (W:WR)(L:Array Bool):Hp:=if L.getD W.iw false=true then W.e'::W.R else match W.ia with
 | none=>W.e::W.R
 | some ia=>if L.getD ia false=true then W.e::W.R else W.R
def WR.start (W:WR):Hp:=match W.ia with
 | none=>W.e::W.R
 | some _=>W.R
theorem WR.tail_t {W:WR}{L:Array Bool}(h:Ls L W.iw):W.tail L=W.e'::W.R:=if_pos h
section
variable {C:Ctx} {F:Fra} {ops:Array Oper}
def a2R (C:Ctx)(F:Fra)(ops:Array Oper)(W:WR)(g:Nat)(env:Env)(o:Oper)(d:D):Prop :=
 ∀ (He:Hp) (ρ:Lk) (a:Act) (w:World),Mem C F ρ (W.e::He) w→(∀ x∈W.R,x∈He)→(∀ k,ρ k g=none)→(∀ x∈W.e::He,x.g≠g) →
  (∀ t∈o.looksAt ops,Rep ρ (Own F.X ρ (W.e::He)) w (env.get t) (a.tmps.getD t undef)) →
  Region.wanted o (yielded ops a.tmps)=true∧∃ v ρ' w',((execOp a.eval o).run C.P w=.ok (.value v) w'∨((execOp a.eval o).run C.P w=.ok .skip w'∧v=undef)) ∧
   Mem C F ρ' (W.e'::He) w'∧Ext ρ (Own F.X ρ (W.e::He)) w ρ' (Own F.X ρ' (W.e'::He)) w'∧(∀ k g',g'≠g→ρ' k g'=ρ k g')∧Rep ρ' (Own F.X ρ' (W.e'::He)) w' d v
theorem c6w {l:List Rec}(hn:(l.map (·.i)).Nodup){a b:Rec}(ha:a∈l)(hb:b∈l)(he:a.i=b.i):a=b:=by
 induction l with
 | nil=>simp at ha
 | cons x l ih =>
  rw [List.map_cons,List.nodup_cons] at hn;rcases List.mem_cons.1 ha with h1|h1
  ·rcases List.mem_cons.1 hb with h2|h2
   ·rw [h1,h2]
   ·exact absurd (List.mem_map.2 ⟨b,h2,by rw [← he,h1]⟩) hn.1
  ·rcases List.mem_cons.1 hb with h2|h2
   ·exact absurd (List.mem_map.2 ⟨a,h1,by rw [he,h2]⟩) hn.1
   ·exact ih hn.2 h1 h2
def c7i (C:Ctx)(F:Fra)(ops:Array Oper)(W:WR)(g:Nat)(env:Env)(r:Rec):Prop :=
 (r.i≠W.iw∧W.ia≠some r.i∧((W.ia=none∧a2l ops W.iw r.i∧a0s C F ops (W.e::W.R) g env r.o r.d r.ne)∨a0s C F ops W.R g env r.o r.d r.ne))∨(r.i=W.iw∧W.ia≠some r.i∧r.ne=none∧a2R C F ops W g env r.o r.d) ∨
  (r.i≠W.iw∧W.ia=some r.i∧r.ne=none∧a0s C F ops W.R g env r.o r.d (some W.e))
theorem c7i.gen {W:WR}{g:Nat}{env:Env}{r:Rec}(h:c7i C F ops W g env r):∀ e,r.ne=some e→e.g=g:=by
 rcases h with ⟨_,_,⟨_,_,h⟩|h⟩|⟨_,_,h,_⟩|⟨_,_,h,_⟩
 ·exact h.1
 ·exact h.1
 ·intro e he;rw [h] at he;cases he
 ·intro e he;rw [h] at he;cases he
theorem DI.nextG {H H':Hp}{n:Nat}{env:Env}{A B:List Rec}{r:Rec}{L:Array Bool}{a:Act}{w:World}{ρ:Lk}{He:Hp}(h:DI C F H n env (A++r::B) L a w ρ He)(hi:r.i<L.size)(hn:¬ Ls L r.i)
  (hnd:((A++r::B).map (·.i)).Nodup) (hdst:(A++r::B).Pairwise (fun r r'=>∀ t,r.o.dst=some t→r'.o.dst≠some t)) (hok:a2A F.nt r.o=true) {v:Value} {ρ':Lk} {w':World} {He':Hp}
  (pm:Mem C F ρ' He' w') (px:Ext ρ (Own F.X ρ He) w ρ' (Own F.X ρ' He') w') (pf:∀ k g',g'≠n+r.i→ρ' k g'=ρ k g') (pr:Rep ρ' (Own F.X ρ' He') w' r.d v)
  (pp:He'.Perm ((A++r::B).filterMap (fun r'=>if (L.setIfInBounds r.i true).getD r'.i false then r'.ne else none)++H')) :
  DI C F H' n env (A++r::B) (L.setIfInBounds r.i true) (a.put r.o.dst v) w' ρ' He':=by
 have hset:∀ j,Ls (L.setIfInBounds r.i true) j↔j=r.i∨Ls L j:=fun j=>Ls.set hi
 have hne:∀ r'∈A++B,r'.i≠r.i:=by
  simp only [List.map_append,List.map_cons] at hnd;intro r' hr' he;rw [List.nodup_append,List.nodup_cons] at hnd;rcases List.mem_append.1 hr' with hr'|hr'
  ·exact hnd.2.2 r'.i (List.mem_map.2 ⟨r',hr',rfl⟩) r.i (by simp) he
  ·exact hnd.2.1.1 (List.mem_map.2 ⟨r',hr',he⟩)
 have hput:∀ t,(a.put r.o.dst v).tmps.getD t undef=if r.o.dst=some t then v else a.tmps.getD t undef:=by
  intro t;cases hd:r.o.dst with
  | none=>simp [Act.put]
  | some k =>
   have hk:k<a.tmps.size:=by
    rw [h.nt];unfold a2A at hok;rw [hd] at hok;exact Nat.blt_eq.mp hok
   show (a.tmps.setIfInBounds k v).getD t undef=_;rw [Array.getD_eq_getD_getElem?,Array.getElem?_setIfInBounds]
   by_cases hkt:k=t
   ·subst hkt;simp [hk]
   ·rw [if_neg hkt,if_neg (by simpa using hkt),← Array.getD_eq_getD_getElem?]
 refine ⟨pm,pp,fun r' hr' hl t ht=>?_,fun t ht=>?_,fun k g hg hk=>?_,?_,?_⟩
 ·rw [hput]
  by_cases hrr:r'=r
  ·subst hrr;rw [if_pos ht];exact pr
  ·have hr2:r'∈A++B:=by
    rcases List.mem_append.1 hr' with h|h
    ·simp [h]
    ·rcases List.mem_cons.1 h with h|h
     ·exact absurd h hrr
     ·simp [h]
   have hl2:=((hset r'.i).1 hl).resolve_left (hne r' hr2);rw [if_neg]
   ·exact (h.reps r' hr' hl2 t ht).mono px
   ·intro hrt
    rw [List.pairwise_append,List.pairwise_cons] at hdst;rcases List.mem_append.1 hr2 with h|h
    ·exact hdst.2.2 r' h r (by simp) t ht hrt
    ·exact hdst.2.1.1 r' h t hrt ht
 ·rw [hput,if_neg (ht r (by simp) ((hset r.i).2 (.inl rfl)))]
  exact (h.old t fun r' hr' hl=>ht r' hr' ((hset r'.i).2 (.inr hl))).mono px
 ·by_cases hgr:g=n+r.i
  ·exact ⟨r,by simp,(hset r.i).2 (.inl rfl),hgr⟩
  ·rw [pf k g hgr] at hk
   obtain ⟨r',h1,h2,h3⟩:=h.fresh k g hg hk;exact ⟨r',h1,(hset r'.i).2 (.inr h2),h3⟩
 ·cases r.o.dst<;>simp [Act.put,h.nt]
 ·cases r.o.dst<;>simp [Act.put,h.dfr]
theorem b2V {W:WR}{Q:Exit→Act→World→Prop}{n:Nat}{env:Env}{rs:List Rec}{suf:List Nat}(ho:b6B ops rs suf)(hiw:W.iw<ops.size)(hwg:W.e'.g=W.e.g∨W.e'.g=n+W.iw)(hgen:∀ e∈W.R,e.g<n)(hge:W.ia=none→W.e.g<n)(hga:∀ ia,W.ia=some ia→W.e.g=n+ia∧a2l ops W.iw ia)(hd:∀ r∈rs,a2A F.nt r.o=true)
  (hst:∀ A r B,rs=A++r::B→ops[r.i]? = some r.o∧c7i C F ops W (n+r.i) (a5H A env) r)
  (hend:∀ (L:Array Bool) (a:Act) (w:World) (ρ:Lk) (He:Hp),L.size=ops.size→(∀ r∈rs,Ls L r.i)→DI C F (W.e'::W.R) n env rs L a w ρ He→wpOps C.P ops Q suf a w) :
  (hw:∀ {L:Array Bool},(∀ r∈rs,Ls L r.i)→Ls L W.iw)→∀ (fuel:Nat) (L:Array Bool) (a:Act) (w:World) (ρ:Lk) (He:Hp),L.size=ops.size→((rs.map (·.i)++suf).filter (fun i=>!L.getD i false)).length≤fuel→Cl ops L→(∀ i∈suf,¬ Ls L i) →
   DI C F (W.tail L) n env rs L a w ρ He→wpAny C.P .any ops Q fuel L a w:=by
 intro hw fuel
 induction fuel with
 | zero =>
  intro L a w ρ He hL hf hc hs hi;have h0:(rs.map (·.i)++suf).filter (fun i=>!L.getD i false)=[]:=List.eq_nil_of_length_eq_zero (by omega);have hall:∀ r∈rs,Ls L r.i:=fun r hr=>by
   have:=List.filter_eq_nil_iff.1 h0 r.i (by simp;exact .inl ⟨r,hr,rfl⟩)
   simpa [Ls] using this
  have hsuf:suf=[]:=by
   apply List.eq_nil_iff_forall_not_mem.2;intro i hi2
   have:=List.filter_eq_nil_iff.1 h0 i (by simp [hi2])
   exact hs i hi2 (by simpa [Ls] using this)
  subst hsuf;refine a3u [] 0 L a w hL (Nat.le_refl _) (fun i hi2=>⟨fun _=>by simp,fun _=>?_⟩) .nil (fun A i B h=>by cases A<;>simp at h) (by simp) hc (hend L a w ρ He hL hall (by have h0:=hi;rw [WR.tail_t (hw hall)] at h0;exact h0))
  have:=ho.all i hi2
  simp at this;obtain ⟨r,hr,rfl⟩:=this;exact hall r hr
 | succ fuel ih =>
  intro L a w ρ He hL hf hc hs hi
  by_cases hall:∀ r∈rs,Ls L r.i
  ·refine a3u suf (fuel+1) L a w hL ?_ (fun i hi2=>?_) ?_ (fun A i B hAB=>⟨fun j hj=>?_,fun j hj=>ho.suf A i B hAB j (by simp [hj])⟩) (fun i hi2=>ho.lt i (by simp [hi2])) hc (hend L a w ρ He hL hall (by have h0:=hi;rw [WR.tail_t (hw hall)] at h0;exact h0))
   ·refine Nat.le_trans ?_ hf
    rw [List.filter_append,List.length_append];rw [(List.filter_eq_self (l:=suf)).2 fun i hi2=>by have:=hs i hi2;unfold Ls at this;simpa using this];omega
   ·constructor
    ·intro h1 h2;exact hs i h2 h1
    ·intro h1
     have:=ho.all i hi2
     rcases List.mem_append.1 this with h|h
     ·obtain ⟨r,hr,rfl⟩:=List.mem_map.1 h;exact hall r hr
     ·exact absurd h h1
   ·exact (List.nodup_append.1 ho.nodup).2.1
   ·have hA:=ho.first (rs.map (·.i)++A) i B (by simp [hAB]) j hj
    refine ⟨ho.lt j (by rw [hAB];rcases List.mem_append.1 hA with h|h<;>simp [h]),fun hB=>?_⟩;have hnd:=ho.nodup;rw [hAB,← List.append_assoc,List.nodup_append] at hnd;exact hnd.2.2 j hA j hB rfl
  ·have hnot:∃ r∈rs,¬ Ls L r.i:=by
    apply Classical.byContradiction;intro hn;exact hall fun r hr=>Classical.byContradiction fun h=>hn ⟨r,hr,h⟩
   have hLt:∀ j,j<ops.size→(L.getD j true=true↔Ls L j):=fun j hj=>by
    unfold Ls;rw [Array.getD_eq_getD_getElem?,Array.getD_eq_getD_getElem?,Array.getElem?_eq_getElem (by omega)];simp
   have hsome:Region.ready .any ops L≠[]:=by
    obtain ⟨r0,hr0,hn0⟩:=hnot
    have:∀ X:List Rec,∀ Y,rs=X++Y→(∃ r∈Y,¬ Ls L r.i)→(∀ r∈X,Ls L r.i)→∃ A r B,rs=A++r::B∧¬ Ls L r.i∧∀ r∈A,Ls L r.i:=by
     intro X Y
     induction Y generalizing X with
     | nil=>rintro _ ⟨r,hr,_⟩ _;simp at hr
     | cons y Y ihY =>
      intro hXY hex hX
      by_cases hy:Ls L y.i
      ·obtain ⟨r,hr,hrn⟩:=hex
       rcases List.mem_cons.1 hr with rfl|hr
       ·exact absurd hy hrn
       ·exact ihY (X++[y]) (by simp [hXY]) ⟨r,hr,hrn⟩ (fun r hr=>by
         rcases List.mem_append.1 hr with h|h
         ·exact hX r h
         ·simp at h;subst h;exact hy)
      ·exact ⟨X,y,Y,hXY,hy,hX⟩
    obtain ⟨A,r,B,h1,h2,h3⟩:=this [] rs rfl ⟨r0,hr0,hn0⟩ (by simp);intro hnil;have hrlt:=ho.lt r.i (by rw [h1];simp)
    have:r.i∈Region.ready .any ops L:=by
     rw [a1d];refine ⟨hrlt,?_,fun j hj=>?_⟩
     ·cases hb:L.getD r.i true with
      | false=>rfl
      | true=>exact absurd ((hLt r.i hrlt).1 hb) h2
     ·have:=ho.first (A.map (·.i)) r.i (B.map (·.i)++suf) (by rw [h1];simp) j hj
      obtain ⟨r',hr',rfl⟩:=List.mem_map.1 this;exact h3 r' hr'
    rw [hnil] at this;simp at this
   refine ⟨fun h0=>absurd h0 hsome,fun i hir=>?_⟩;obtain ⟨hilt,hin,hid⟩:=a1d.1 hir;have hnL:¬ Ls L i:=fun h=>by rw [(hLt i hilt).2 h] at hin;cases hin
   have hpre:i∈rs.map (·.i):=by
    rcases List.mem_append.1 (ho.all i hilt) with h|h
    ·exact h
    ·obtain ⟨A,B,hAB⟩:=List.append_of_mem h
     obtain ⟨r0,hr0,hn0⟩:=hnot
     have:=a0M hL hc (ho.suf A i B hAB r0.i (List.mem_append_left _ (List.mem_map.2 ⟨r0,hr0,rfl⟩))) hid
     exact absurd this hn0
   obtain ⟨r,hr,rfl⟩:=List.mem_map.1 hpre;obtain ⟨A,B,hAB⟩:=List.append_of_mem hr;obtain ⟨hor,hstr⟩:=hst A r B hAB;have hset:∀ j,Ls (L.setIfInBounds r.i true) j↔j=r.i∨Ls L j:=fun j=>Ls.set (by omega)
   have hndr:(rs.map (·.i)).Nodup:=(List.nodup_append.1 ho.nodup).1;have hgt:∀ e∈W.tail L,(e∈W.R∨(e=W.e∧∀ ia,W.ia=some ia→Ls L ia)∨(e=W.e'∧Ls L W.iw)):=fun e he=>by
    unfold WR.tail at he
    by_cases hwl:L.getD W.iw false=true
    ·rw [if_pos hwl] at he
     rcases List.mem_cons.1 he with rfl|he
     ·exact .inr (.inr ⟨rfl,hwl⟩)
     ·exact .inl he
    ·rw [if_neg hwl] at he
     cases hia:W.ia with
     | none =>
      rw [hia] at he;rcases List.mem_cons.1 he with rfl|he
      ·exact .inr (.inl ⟨rfl,by simp⟩)
      ·exact .inl he
     | some ia =>
      rw [hia] at he;dsimp only at he
      by_cases hal:L.getD ia false=true
      ·rw [if_pos hal] at he
       rcases List.mem_cons.1 he with rfl|he
       ·exact .inr (.inl ⟨rfl,fun j hj=>by cases hj;exact hal⟩)
       ·exact .inl he
      ·rw [if_neg hal] at he
       exact .inl he
   have hfr:∀ k,ρ k (n+r.i)=none:=fun k=>by
    apply Classical.byContradiction;intro hk;obtain ⟨r',h1,h2,h3⟩:=hi.fresh k (n+r.i) (by omega) hk
    have:r'.i=r.i:=by omega
    rw [this] at h2;exact hnL h2
   have hne:∀ e∈He,e.g≠n+r.i:=fun e he hg=>by
    rcases List.mem_append.1 (hi.perm.mem_iff.1 he) with h|h
    ·obtain ⟨r',h1,h2⟩:=List.mem_filterMap.1 h
     split at h2
     ·rename_i hl
      obtain ⟨A',B',hAB'⟩:=List.append_of_mem h1
      have:=(hst A' r' B' hAB').2.gen e h2
      have:r'.i=r.i:=by omega
      rw [this] at hl;exact hnL hl
     ·cases h2
    ·have hE:(∀ ia,W.ia=some ia→Ls L ia)→W.e.g≠n+r.i:=fun hal hg=>by
      cases hia:W.ia with
      | none=>have:=hge hia;omega
      | some ia =>
       have h1:=(hga ia hia).1
       have:ia=r.i:=by omega
       rw [← this] at hnL;exact hnL (hal ia hia)
     rcases hgt e h with h|⟨rfl,hal⟩|⟨rfl,hl⟩
     ·have:=hgen e h;omega
     ·exact hE hal hg
     ·rcases hwg with h'|h'
      ·refine hE (fun ia hia=>?_) (by omega)
       refine a0M hL hc (hga ia hia).2 fun k hk=>?_
       have hwl':Ls L W.iw:=hl;exact hc W.iw ((hLt W.iw hiw).2 hwl') hiw k hk
      ·have:W.iw=r.i:=by omega
       rw [this] at hl;exact hnL hl
   have go:∀ (a':Act) (w':World) (ρ':Lk) (He':Hp),DI C F (W.tail (L.setIfInBounds r.i true)) n env rs (L.setIfInBounds r.i true) a' w' ρ' He'→wpAny C.P .any ops Q fuel (L.setIfInBounds r.i true) a' w':=by
    intro a' w' ρ' He' hn';refine ih _ _ _ ρ' He' (by simp [hL]) ?_ ?_ (fun j hj=>?_) hn'
    ·have:((rs.map (·.i)++suf).filter (fun i=>!(L.setIfInBounds r.i true).getD i false)).length<((rs.map (·.i)++suf).filter (fun i=>!L.getD i false)).length:=by
      have sub:(rs.map (·.i)++suf).filter (fun i=>!(L.setIfInBounds r.i true).getD i false)=((rs.map (·.i)++suf).filter (fun i=>!L.getD i false)).filter (fun i=>!Nat.beq i r.i):=by
       rw [List.filter_filter];apply List.filter_congr;intro x hx;have h1:=hset x;unfold Ls at h1
       by_cases hxr:x=r.i
       ·subst hxr
        have:(L.setIfInBounds r.i true).getD r.i false=true:=h1.2 (.inl rfl)
        simp [this]
       ·have hb:Nat.beq x r.i=false:=by
         cases hb:Nat.beq x r.i with
         | false=>rfl
         | true=>exact absurd (Nat.eq_of_beq_eq_true hb) hxr
        rw [hb]
        by_cases hlx:L.getD x false=true
        ·rw [h1.2 (.inr hlx),hlx];rfl
        ·have:¬ (L.setIfInBounds r.i true).getD x false=true:=fun h=>hlx ((h1.1 h).resolve_left hxr)
         simp only [Bool.not_eq_true] at this hlx;rw [this,hlx];rfl
      rw [sub];apply List.length_filter_lt_length_iff_exists.2;exact ⟨r.i,by rw [List.mem_filter];exact ⟨by simp;exact .inl ⟨r,hr,rfl⟩,by unfold Ls at hnL;simpa using hnL⟩,by simp⟩
     omega
    ·intro k hk2 hks x hx
     have hk3:Ls (L.setIfInBounds r.i true) k:=by
      unfold Ls;rw [Array.getD_eq_getD_getElem?,Array.getElem?_eq_getElem (by simp;omega)] at hk2 ⊢;simpa using hk2
     show Ls _ x;rw [hset];rcases (hset k).1 hk3 with rfl|hk3
     ·exact .inr (hid x hx)
     ·exact .inr (hc k ((hLt k hks).2 hk3) hks x hx)
    ·rw [hset]
     rintro (rfl|h)
     ·have hnd:=ho.nodup
      rw [List.nodup_append] at hnd;exact hnd.2.2 r.i (List.mem_map.2 ⟨r,hr,rfl⟩) r.i hj rfl
     ·exact hs j hj h
   have hdst:=ho.dst;rw [hAB] at hdst hndr;have keep:∀ {α:Type} (j:Nat) (x y:α),j≠r.i→(if (L.setIfInBounds r.i true).getD j false=true then x else y)=(if L.getD j false=true then x else y):=fun j x y hj=>by
    have:=hset j
    unfold Ls at this
    by_cases hl:L.getD j false=true
    ·rw [if_pos hl,if_pos (this.2 (.inr hl))]
    ·rw [if_neg hl,if_neg fun h=>hl ((this.1 h).resolve_left hj)]
   have wset:r.i≠W.iw→W.ia≠some r.i→W.tail (L.setIfInBounds r.i true)=W.tail L:=fun hr hr2=>by
    unfold WR.tail;rw [keep W.iw _ _ (Ne.symm hr)];cases hia:W.ia with
    | none=>rfl
    | some ia =>
     dsimp only;rw [keep ia _ _ fun h=>hr2 (by rw [hia,h])]
   have next:r.i≠W.iw→W.ia≠some r.i→∀ v ρ' w',a9m C F He ρ w (n+r.i) r.d r.ne v ρ' w'→wpAny C.P .any ops Q fuel (L.setIfInBounds r.i true) (a.put r.o.dst v) w':=by
    intro hriw hria v ρ' w' p;have hi':=hi;rw [hAB] at hi';have hn':=DI.next hi' (by omega) hnL hndr hdst (hd r hr) p;rw [← hAB,← wset hriw hria] at hn';exact go _ _ _ _ hn'
   unfold wpOp;simp only [hor];have hR:∀ e∈W.R,e∈He:=fun e he=>hi.perm.mem_iff.2 (by
    refine List.mem_append_right _ ?_;unfold WR.tail;cases W.ia<;>dsimp only<;>(repeat' split)<;>simp [he])
   have samefm:r.ne=none→∀ {fm:List Ent},(A++r::B).filterMap (fun r'=>if L.getD r'.i false then r'.ne else none)=fm →
     (A++r::B).filterMap (fun r'=>if (L.setIfInBounds r.i true).getD r'.i false then r'.ne else none)=fm:=fun hnone fm hfm=>by
    rw [← hfm];refine a4N fun r' hr'=>?_
    by_cases hrr:r'.i=r.i
    ·have:r'=r:=c6w hndr hr' (by simp) hrr
     subst this;rw [hnone];simp
    ·exact keep r'.i _ _ hrr
   rcases hstr with ⟨hriw,hria,hstd⟩|⟨hriw,hria,hnone,hstw⟩|⟨hriw,hria,hnone,hstd⟩
   ·have hgo:∀ Hr:Hp,(∀ e∈Hr,e∈He)→a0s C F ops Hr (n+r.i) (a5H A env) r.o r.d r.ne→_:=fun Hr hsub hs=>hs.2 He ρ a w hi.mem hsub hfr hne (hi.look ho hL hc hAB hir)
    have fin:_:=(show (Region.wanted r.o (yielded ops a.tmps)=false∧r.ne=none∧Rep ρ (Own F.X ρ He) w r.d undef)∨(Region.wanted r.o (yielded ops a.tmps)=true∧d4R C F He ρ w (n+r.i) r.d r.ne r.o a) from by
     rcases hstd with ⟨hia,hre,hs⟩|hs
     ·refine hgo _ (fun e he=>hi.perm.mem_iff.2 ?_) hs
      have hnw:¬ L.getD W.iw false=true:=fun hwl=>hnL (by
       refine a0M hL hc hre fun k hk=>?_
       have hwl':Ls L W.iw:=hwl;exact hc W.iw ((hLt W.iw hiw).2 hwl') hiw k hk)
      unfold WR.tail;rw [if_neg hnw,hia];rcases List.mem_cons.1 he with rfl|he
      ·simp
      ·simp [he]
     ·exact hgo _ hR hs)
    rcases fin with ⟨hw0,hn0,hrep⟩|⟨hw0,hout⟩
    ·rw [if_neg (by rw [hw0];simp)]
     exact next hriw hria undef ρ w ⟨by rw [hn0];exact hi.mem,by rw [hn0];exact .refl _ _ _,fun _ _ _=>rfl,by rw [hn0];exact hrep⟩
    ·rw [if_pos hw0]
     refine .inl ?_;unfold Oper.wp;rcases hout with ⟨v,ρ',w',h1,h2⟩|⟨f,vs,h1,h2⟩
     ·rw [h1];exact next hriw hria v ρ' w' h2
     ·rw [h1]
      refine h2.mono ?_;rintro e w' ⟨v,rfl,ρ',h3⟩;exact next hriw hria v ρ' w' h3
   ·
    have hnw:¬ L.getD W.iw false=true:=fun h=>hnL (by rw [hriw];exact h)
    generalize hfm:rs.filterMap (fun r'=>if L.getD r'.i false then r'.ne else none)=fm at *;have hperm:He.Perm (W.e::(fm++W.R)):=by
     have h0:=hi.perm;have htl:W.tail L=W.e::W.R:=by
      unfold WR.tail;rw [if_neg hnw];cases hia:W.ia with
      | none=>rfl
      | some ia =>
       dsimp only;have hre:=(hga ia hia).2;rw [← hriw] at hre;exact if_pos (a0M hL hc hre hid)
     rw [htl,hfm] at h0;exact h0.trans List.perm_middle
    have m1:=hi.mem.perm hperm;have ho1:=Own.perm (X:=F.X) (ρ:=ρ) hperm;obtain ⟨hw0,v,ρ',w',hrun,m2,x2,far2,rep2⟩:=hstw (fm++W.R) ρ a w m1 (fun e he=>by simp [he]) hfr (fun e he=>hne e (hperm.mem_iff.2 he)) (fun t ht=>by
     rw [← ho1];exact hi.look ho hL hc hAB hir t ht)
    rw [← ho1] at x2;have hi':=hi;rw [hAB] at hi' hfm;have nx:=DI.nextG (H':=W.e'::W.R) hi' (by omega) hnL hndr hdst (hd r hr) (v:=v) m2 x2 far2 rep2 (by
     rw [samefm hnone hfm];exact List.perm_middle.symm)
    have hwt:W.tail (L.setIfInBounds r.i true)=W.e'::W.R:=by
     exact if_pos ((hset W.iw).2 (.inl hriw.symm))
    rw [← hAB,← hwt] at nx;rw [if_pos hw0];refine .inl ?_;unfold Oper.wp;rcases hrun with hrun|⟨hrun,rfl⟩
    ·rw [hrun];exact go _ _ _ _ nx
    ·rw [hrun];exact go _ _ _ _ nx
   ·
    have htl:W.tail L=W.R:=by
     have hnw:¬ L.getD W.iw false=true:=fun hwl=>hnL (by
      refine a0M hL hc (hga r.i hria).2 fun k hk=>?_
      have hwl':Ls L W.iw:=hwl;exact hc W.iw ((hLt W.iw hiw).2 hwl') hiw k hk)
     unfold WR.tail;rw [if_neg hnw,hria];exact if_neg hnL
    have hwt:W.tail (L.setIfInBounds r.i true)=W.e::W.R:=by
     have hnw:¬ (L.setIfInBounds r.i true).getD W.iw false=true:=fun hwl=>by
      rcases (hset W.iw).1 hwl with h|h
      ·exact hriw h.symm
      ·exact hnL (by
        refine a0M hL hc (hga r.i hria).2 fun k hk=>?_
        exact hc W.iw ((hLt W.iw hiw).2 h) hiw k hk)
     unfold WR.tail;rw [if_neg hnw,hria];exact if_pos ((hset r.i).2 (.inl rfl))
    have nxt:∀ v ρ' w',a9m C F He ρ w (n+r.i) r.d (some W.e) v ρ' w'→wpAny C.P .any ops Q fuel (L.setIfInBounds r.i true) (a.put r.o.dst v) w':=fun v ρ' w' p=>by
     have hi':=hi;rw [hAB] at hi';have nx:=DI.nextG (H':=W.e::W.R) hi' (by omega) hnL hndr hdst (hd r hr) (v:=v) p.mem p.ext p.far p.rep (by
      rw [samefm hnone rfl];have h0:=hi'.perm;rw [htl] at h0;exact (List.Perm.cons W.e h0).trans List.perm_middle.symm)
     rw [← hAB,← hwt] at nx;exact go _ _ _ _ nx
    rcases hstd.2 He ρ a w hi.mem hR hfr hne (hi.look ho hL hc hAB hir) with ⟨hw0,hn0,hrep⟩|⟨hw0,hout⟩
    ·cases hn0
    ·rw [if_pos hw0]
     refine .inl ?_;unfold Oper.wp;rcases hout with ⟨v,ρ',w',h1,h2⟩|⟨f,vs,h1,h2⟩
     ·rw [h1];exact nxt v ρ' w' h2
     ·rw [h1]
      refine h2.mono ?_;rintro e w' ⟨v,rfl,ρ',h3⟩;exact nxt v ρ' w' h3
inductive b6z (C:Ctx)(F:Fra)(ops:Array Oper)(W:WR)(n:Nat):List Nat→Env→Hp→Env→Hp→Prop
 | nil (env:Env) (N:Hp):b6z C F ops W n [] env N env N
 | cons {i:Nat} {l:List Nat} {o:Oper} {d:D} {ne:Option Ent} {env env':Env} {N N':Hp} (ho:ops[i]? = some o) (hs:c7i C F ops W (n+i) env ⟨i,o,d,ne⟩)
   (h:b6z C F ops W n l (a1N env o.dst d) (a4f ne N) env' N'):b6z C F ops W n (i::l) env N env' N'
theorem b6z.recs {W:WR}{n:Nat}{l:List Nat}{env env':Env}{N N':Hp}(h:b6z C F ops W n l env N env' N') :
  ∃ rs:List Rec,rs.map (·.i)=l∧env'=a5H rs env∧N'=b5T rs N ∧
   ∀ A r B,rs=A++r::B→ops[r.i]? = some r.o∧c7i C F ops W (n+r.i) (a5H A env) r:=by
 induction h with
 | nil env N=>exact ⟨[],rfl,rfl,rfl,fun A r B h=>by cases A<;>simp at h⟩
 | @cons i l o d ne env env' N N' ho hs _ ih =>
  obtain ⟨rs,h1,h2,h3,h4⟩:=ih;refine ⟨⟨i,o,d,ne⟩::rs,by simp [h1],h2,h3,fun A r B hr=>?_⟩;cases A with
  | nil =>
   simp only [List.nil_append,List.cons.injEq] at hr;obtain ⟨rfl,rfl⟩:=hr;exact ⟨ho,hs⟩
  | cons r0 A =>
   simp only [List.cons_append,List.cons.injEq] at hr;obtain ⟨rfl,rfl⟩:=hr;exact h4 A r B rfl
theorem Ok.drawWA {W:WR}{s:St}{Q:Exit→St→Prop}{pre suf:List Nat}{envF:Env}{N:Hp}(hc:b4g ops pre suf=true)
  (hH:s.H.Perm W.start) (hga:∀ ia,W.ia=some ia→W.e.g=s.n+ia∧a2l ops W.iw ia∧ia∈pre) (hiw:W.iw∈pre) (hwg:W.e'.g=W.e.g∨W.e'.g=s.n+W.iw)
  (hpre:b6z C F ops W s.n pre s.env [] envF N)
  (h:OkL C F ops (suf.map fun j=>ops.getD j default) ⟨envF,N++W.e'::W.R,s.n+ops.size⟩ (Q .normal)) (hd:ops.toList.all (a2A F.nt)=true) (ρ:Lk) (a:Act) (w:World) (hs:Sat C F ρ s a w) :
  wpAny C.P .any ops (Fin C F (Q .normal)) ops.size (Array.replicate ops.size false) a w.drew:=by
 obtain ⟨rs,h1,h2,h3,h4⟩:=hpre.recs;have hor:∀ r∈rs,ops[r.i]? = some r.o:=fun r hr=>by
  obtain ⟨A,B,hAB⟩:=List.append_of_mem hr;exact (h4 A r B hAB).1
 have ho:=b0T h1 hor hc;have hds:∀ r∈rs,a2A F.nt r.o=true:=fun r hr=>by
  refine List.all_eq_true.1 hd r.o ?_
  have:=hor r hr
  exact Array.mem_toList_iff.2 (Array.mem_of_getElem? this)
 have hrep:∀ j,(Array.replicate ops.size false).getD j false=false:=fun j=>by
  rw [Array.getD_eq_getD_getElem?];rw [Array.getElem?_replicate];split<;>rfl
 have hnL:∀ j,¬ Ls (Array.replicate ops.size false) j:=fun j hj=>by unfold Ls at hj;rw [hrep] at hj;cases hj
 have hgen:∀ e∈W.R,e.g<s.n:=fun e he=>hs.gen e (hH.mem_iff.2 (by unfold WR.start;cases W.ia<;>simp [he]))
 have hge:W.ia=none→W.e.g<s.n:=fun hia=>hs.gen _ (hH.mem_iff.2 (by unfold WR.start;rw [hia];simp))
 have hlw:=ho.lt W.iw (by rw [h1];simp [hiw]);have htl:W.tail (Array.replicate ops.size false)=W.start:=by
  unfold WR.tail WR.start;rw [if_neg (by rw [hrep];simp)];cases W.ia with
  | none=>rfl
  | some ia=>exact if_neg (by rw [hrep];simp)
 have hin:DI C F (W.tail (Array.replicate ops.size false)) s.n s.env rs (Array.replicate ops.size false) a w.drew ρ s.H:=by
  refine ⟨hs.mem.drew,?_,fun r _ hl=>absurd hl (hnL _),fun t _=>(hs.env t).mono (.drew _ _ _),fun k g hg hk=>absurd (hs.fresh k g hg) hk,hs.nt,hs.dfr⟩
  have:rs.filterMap (fun r=>if (Array.replicate ops.size false).getD r.i false then r.ne else none)=[]:=by
   rw [List.filterMap_eq_nil_iff];intro r _;rw [hrep];rfl
  rw [this,htl];exact hH
 refine b2V ho hlw hwg hgen hge (fun ia h=>⟨(hga ia h).1,(hga ia h).2.1⟩) hds h4 ?_ (fun hall=>by
  rw [← h1] at hiw;obtain ⟨r,hr,he⟩:=List.mem_map.1 hiw;rw [← he];exact hall r hr) ops.size _ a w.drew ρ s.H (by simp) ?_ ?_ (fun j _=>hnL j) hin
 ·intro L a' w' ρ' He hL hall hi
  have hN:He.Perm (N++W.e'::W.R):=by
   refine hi.perm.trans (List.Perm.append_right _ ?_);have e:rs.filterMap (fun r=>if L.getD r.i false then r.ne else none)=rs.filterMap (·.ne):=a4N fun r hr=>by
    have:=hall r hr;unfold Ls at this;rw [this];rfl
   rw [e,h3]
   have:=a2q rs []
   rw [List.append_nil] at this;exact this.symm
  refine h ?_ suf ?_ ρ' a' w' ⟨hi.mem.perm hN,?_,?_,fun t=>?_,hi.nt,hi.dfr⟩
  ·rw [List.all_eq_true]
   intro o' ho';obtain ⟨j,hj,rfl⟩:=List.mem_map.1 ho';have hlt:=ho.lt j (by simp [hj]);refine List.all_eq_true.1 hd _ ?_;rw [Array.getD_eq_getD_getElem?,Array.getElem?_eq_getElem hlt];simp
  ·rw [List.map_map]
   refine List.map_congr_left fun j hj=>?_
   have hlt:=ho.lt j (by simp [hj]);simp [Array.getD_eq_getD_getElem?,Array.getElem?_eq_getElem hlt]
  ·intro k g hg
   apply Classical.byContradiction;intro hk;obtain ⟨r,hr,_,he⟩:=hi.fresh k g (by simp at hg;omega) hk
   have:=ho.lt r.i (by simp;exact .inl ⟨r,hr,rfl⟩)
   simp at hg;omega
  ·intro e he
   rcases List.mem_append.1 he with he|he
   ·rw [h3] at he
    have he:=(a2q rs []).mem_iff.1 he;rw [List.append_nil] at he;obtain ⟨r,hr,hre⟩:=List.mem_filterMap.1 he;obtain ⟨A,B,hAB⟩:=List.append_of_mem hr
    have:=(h4 A r B hAB).2.gen e hre
    have:=ho.lt r.i (by simp;exact .inl ⟨r,hr,rfl⟩)
    show e.g<s.n+ops.size;omega
   ·show e.g<s.n+ops.size
    rcases List.mem_cons.1 he with rfl|he
    ·have hE:W.e.g<s.n+ops.size:=by
      cases hia:W.ia with
      | none=>have:=hge hia;omega
      | some ia =>
       obtain ⟨q1,_,q3⟩:=hga ia hia
       have:=ho.lt ia (by rw [h1];simp [q3])
       omega
     rcases hwg with h|h<;>omega
    ·have:=hgen e he
     omega
  ·show Rep ρ' (Own F.X ρ' (N++W.e'::W.R)) w' (envF.get t) _
   rw [← Own.perm hN,h2]
   by_cases hw:∃ r∈rs,r.o.dst=some t
   ·obtain ⟨r,hr,hrd⟩:=hw
    rw [a5I rs s.env t ho.dst r hr hrd];exact hi.reps r hr (hall r hr) t hrd
   ·rw [a1V rs s.env t fun r hr hrd=>hw ⟨r,hr,hrd⟩]
    exact hi.old t fun r hr _ hrd=>hw ⟨r,hr,hrd⟩
 ·refine Nat.le_trans (List.length_filter_le _ _) ?_
  have hsub:∀ (l:List Nat) (n:Nat),l.Nodup→(∀ x∈l,x<n)→l.length≤n:=by
   intro l n
   induction n generalizing l with
   | zero=>intro _ h;cases l with
    | nil=>simp
    | cons x l=>exact absurd (h x (by simp)) (by omega)
   | succ n ihn =>
    intro hnd hlt;have h1:=ihn (l.erase n) (hnd.erase n) fun x hx=>by
     have:=hlt x (List.mem_of_mem_erase hx)
     have:x≠n:=fun h=>by subst h;exact (List.Nodup.not_mem_erase hnd) hx
     omega
    have:=List.length_erase (a:=n) (l:=l)
    split at this<;>omega
  exact hsub _ _ ho.nodup ho.lt
 ·intro k hk
  have:k<ops.size∨¬ k<ops.size:=by omega
  rcases this with hlt|hlt
  ·rw [Array.getD_eq_getD_getElem?,Array.getElem?_replicate,if_pos hlt] at hk;cases hk
  ·intro h;exact absurd h hlt
theorem c0j {P:Program}{o:Oper}{a:Act}{R R':Exit→Act→World→Prop}{K K':Act→World→Prop}(hk:∀ a w,K a w→K' a w)(h:∀ e a w,R e a w→R' e a w):∀ r,o.upon P a K R r→o.upon P a K' R' r:=fun r hr=>by
 unfold Oper.upon at hr ⊢;split at hr
 ·exact hk _ _ hr
 ·exact hk _ _ hr
 ·exact hk _ _ hr
 ·refine hr.mono ?_
  intro e w'' q;cases e with
  | returned v=>exact hk _ _ q
  | panicked c=>exact h _ _ _ q
  | outgrown=>obtain ⟨a,w,q⟩:=q;exact ⟨a,w,h _ _ _ q⟩
 ·exact fun c cs=>by
   obtain ⟨v,w',h1,h2⟩:=hr c cs;exact ⟨v,w',hk _ _ h1,h2⟩
 ·exact h _ _ _ hr
 ·exact hr.elim
theorem a4X {P:Program}{R R':Exit→Act→World→Prop}(h:∀ e a w,R e a w→R' e a w):∀ (fuel:Nat) (L:Array Bool) (a:Act) (w:World),wpAny P .any ops R fuel L a w→wpAny P .any ops R' fuel L a w
 | 0,L,a,w,hh=>⟨hh.1,h _ _ _ hh.2⟩
 | fuel+1,L,a,w,hh=>⟨fun h0=>h _ _ _ (hh.1 h0),fun i hi=>by
   have hq:=hh.2 i hi;unfold wpOp at hq ⊢;split
   ·rename_i ho;simp only [ho] at hq;exact a4X h _ _ _ _ hq
   ·rename_i o ho
    simp only [ho] at hq;split
    ·rename_i hw
     rw [if_pos hw] at hq;rcases hq with hq|⟨h1,a,w,h2⟩
     ·exact .inl (c0j (fun a w=>a4X h _ _ a w) h _ hq)
     ·exact .inr ⟨h1,a,w,h _ _ _ h2⟩
    ·rename_i hw
     rw [if_neg hw] at hq;exact a4X h _ _ _ _ hq⟩
theorem Ok.drawW {W:WR}{i:Nat}{s:St}{Q:Exit→St→Prop}{pre suf:List Nat}{envF:Env}{N:Hp}(hm:C.P.follows .mixedOrders=true)(hc:b4g ops pre suf=true)
  (hH:s.H.Perm W.start) (hga:∀ ia,W.ia=some ia→W.e.g=s.n+ia∧a2l ops W.iw ia∧ia∈pre) (hiw:W.iw∈pre) (hwg:W.e'.g=W.e.g∨W.e'.g=s.n+W.iw)
  (hpre:b6z C F ops W s.n pre s.env [] envF N)
  (h:OkL C F ops (suf.map fun j=>ops.getD j default) ⟨envF,N++W.e'::W.R,s.n+ops.size⟩ (Q .normal)):Ok C F (.region i ops true) s Q:=fun hd ρ a w hs=>by
 refine wp_region_any hm (a4X (fun e a w h=>?_) _ _ _ _ (Ok.drawWA hc hH hga hiw hwg hpre h hd ρ a w hs));obtain ⟨rfl,s',ρ',h1,h2⟩:=h;exact ⟨s',ρ',h1,h2⟩
theorem b7B {tt:Nat→Option a0k}{H:Hp}{g g':Operand→D}{op:Op}(h:∀ x∈op.operands,g x=g' x):evS tt H g op=evS tt H g' op:=by
 cases op<;>simp only [Op.operands] at h<;>try rfl
 case store t x y=>simp only [evS];rw [h x (by simp),h y (by simp)]
theorem c1l {tt:Nat→Option a0k}{e:Ent}{He:Hp}{g:Operand→D}{op:Op}{k:Nat}{e':Ent}{p:Prop}(h:evS tt [e] g op=some (k,e',p)) :
  evS tt (e::He) g op=some (k,e',p)∧Hp.set (e::He) k e'=e'::He∧e'.g=e.g:=by
 unfold evS at h;split at h<;>first|(cases h;done)|skip
 rename_i t x y;simp only [evS];split at h<;>first|(cases h;done)|skip
 rename_i i hi
 try simp only [hi]
 split at h<;>first|(cases h;done)|skip
 rename_i h1
 try simp only [h1]
 split at h<;>first|(cases h;done)|skip
 rename_i e1 h2;have hb:Nat.beq e.k k=true∧e1=e:=by
  split at h<;>first|(cases h;done)|skip
  cases h;simp only [Hp.get] at h2;split at h2
  ·rename_i hb;cases h2;exact ⟨hb,rfl⟩
  ·cases h2
 have hget:∀ k0,Hp.get [e] k0=some e1→Hp.get (e::He) k0=some e1:=fun k0 hk=>by
  simp only [Hp.get] at hk ⊢;split at hk
  ·exact hk
  ·cases hk
 try rw [hget _ h2]
 split at h<;>first|(cases h;done)|skip
 rename_i h3;cases h;refine ⟨by first|rfl|simp only [h3],?_,by rw [hb.2]⟩;simp only [Hp.set,hb.1]
theorem a2R.store {W:WR}{g:Nat}{env:Env}{o:Oper}{tt:Nat→Option a0k}(htt:Tab C.P tt){k:Nat}{p:Prop}(hw:a0N ops env o=some true)(he:evS tt [W.e] (a1g env) o.op=some (k,W.e',p))(hp:p) :
  a2R C F ops W g env o (.prim (.tuple #[])):=fun He ρ a w m _ _ _ hr=>by
 refine ⟨a1u hr hw,?_⟩;obtain ⟨g',h1,h2⟩:=a2v hr;rw [b7B h1] at he;obtain ⟨q1,q2,_⟩:=c1l (He:=He) he;obtain ⟨w',r1,r2,r3,_⟩:=b2I (s:=⟨[],W.e::He,0⟩) htt m h2 q1 hp;simp only [q2] at r2 r3;exact ⟨undef,ρ,w',.inr ⟨r1,rfl⟩,r2,r3,fun _ _ _=>rfl,.prim _⟩
theorem b1K {tt:Nat→Option a0k}{H:Hp}{n k:Nat}{g g':Operand→D}{op:Op}(h:∀ x∈op.operands,g x=g' x):evA tt H n k g op=evA tt H n k g' op:=by
 unfold evA;split
 ·rename_i args tys
  cases hargs:args.toList with
  | nil=>rfl
  | cons s r =>
   cases r with
   | nil=>rfl
   | cons x r =>
    cases r with
    | nil =>
     have hs:s∈args.toList:=by rw [hargs];simp
     have hx:x∈args.toList:=by rw [hargs];simp
     dsimp only;rw [h s (by simp [Op.operands,Call.operands];simpa using hs),h x (by simp [Op.operands,Call.operands];simpa using hx)]
    | cons=>rfl
 ·rfl
theorem b8i {e e1:Ent}{k:Nat}{He:Hp}(h:Hp.get [e] k=some e1):e1=e∧Hp.get (e::He) k=some e∧Hp.del (e::He) k=He∧Hp.del [e] k=[]:=by
 simp only [Hp.get] at h;split at h
 ·rename_i hb
  cases h;refine ⟨rfl,?_,?_,?_⟩
  ·simp only [Hp.get,hb]
  ·simp only [Hp.del,hb]
  ·simp only [Hp.del,hb]
 ·cases h
theorem b9U {e:Ent}{He:Hp}{esz:Nat}{d:D}{r:List D × Prop}(h:b6y [e] esz d=some r):b6y (e::He) esz d=some r:=by
 unfold b6y at h ⊢;split at h<;>try exact h
 split at h<;>first|(cases h;done)|skip
 rename_i h1;obtain ⟨rfl,h2,_,_⟩:=b8i (He:=He) h1;rw [h2];exact h
theorem c1i {tt:Nat→Option a0k}{e e':Ent}{He:Hp}{n k:Nat}{g:Operand→D}{op:Op}{d:D}{p:Prop}(h:evA tt [e] n k g op=some (d,[e'],p)) :
  evA tt (e::He) n k g op=some (d,e'::He,p)∧e'.g=n:=by
 unfold evA at h ⊢;split at h<;>first|(cases h;done)|skip
 split at h<;>first|(cases h;done)|skip
 rename_i h1
 try rw [h1]
 try dsimp only
 split at h<;>first|(cases h;done)|skip
 rename_i h2
 try rw [h2]
 try dsimp only
 split at h<;>first|(cases h;done)|skip
 rename_i h3
 try rw [h3]
 try dsimp only
 split at h<;>first|(cases h;done)|skip
 rename_i h4
 try rw [h4]
 try dsimp only
 split at h<;>first|(cases h;done)|skip
 rename_i h5
 try rw [h5]
 try dsimp only
 split at h<;>first|(cases h;done)|skip
 rename_i h6
 try rw [b9U h6]
 try dsimp only
 split at h<;>first|(cases h;done)|skip
 ·rename_i h7
  try rw [h7]
  try dsimp only
  split at h<;>first|(cases h;done)|skip
  rename_i h8;obtain ⟨rfl,a1,a2,a3⟩:=b8i (He:=He) h8
  try rw [a1]
  try dsimp only
  rw [a3] at h;rw [a2];cases h;exact ⟨rfl,rfl⟩
theorem a2R.app {W:WR}{g:Nat}{env:Env}{o:Oper}{tt:Nat→Option a0k}(k:Nat)(htt:Tab C.P tt){d:D}{p:Prop}(hw:a0N ops env o=some true)(he:evA tt [W.e] g k (a1g env) o.op=some (d,[W.e'],p))(hp:p) :
  a2R C F ops W g env o d:=fun He ρ a w m _ fr hne hr=>by
 refine ⟨a1u hr hw,?_⟩;obtain ⟨g',h1,h2⟩:=a2v hr;rw [b1K h1] at he;obtain ⟨q1,_⟩:=c1i (He:=He) he;obtain ⟨v,ρ',w',r1,r2⟩:=a7M htt m fr hne h2 q1 hp;exact ⟨v,ρ',w',.inl r1,r2.mem,r2.ext,r2.far,r2.rep⟩
theorem b4q {tt:Nat→Option a0k}{e':Ent}{He:Hp}{n k:Nat}{g:Operand→D}{op:Op}{d:D}{p:Prop}(h:evA tt [] n k g op=some (d,[e'],p)) :
  evA tt He n k g op=some (d,e'::He,p)∧e'.g=n:=by
 have src:∀ {esz:Nat} {x:D} {r:List D × Prop},b6y [] esz x=some r→b6y He esz x=some r:=fun {esz x r} h=>by
  unfold b6y at h ⊢;split at h<;>try exact h
  split at h<;>first|(cases h;done)|skip
  rename_i h1;cases h1
 unfold evA at h ⊢;split at h<;>first|(cases h;done)|skip
 split at h<;>first|(cases h;done)|skip
 rename_i h1
 try rw [h1]
 try dsimp only
 split at h<;>first|(cases h;done)|skip
 rename_i h2
 try rw [h2]
 try dsimp only
 split at h<;>first|(cases h;done)|skip
 rename_i h3
 try rw [h3]
 try dsimp only
 split at h<;>first|(cases h;done)|skip
 rename_i h4
 try rw [h4]
 try dsimp only
 split at h<;>first|(cases h;done)|skip
 rename_i h5
 try rw [h5]
 try dsimp only
 split at h<;>first|(cases h;done)|skip
 rename_i h6
 try rw [src h6]
 try dsimp only
 split at h<;>first|(cases h;done)|skip
 cases h;exact ⟨rfl,rfl⟩
theorem a0s.app0 {H:Hp}{g:Nat}{env:Env}{o:Oper}{e:Ent}{tt:Nat→Option a0k}(k:Nat)(htt:Tab C.P tt){d:D}{p:Prop}(hw:a0N ops env o=some true)(he:evA tt [] g k (a1g env) o.op=some (d,[e],p))(hp:p) :
  a0s C F ops H g env o d (some e):=by
 refine ⟨fun e' h=>by cases h;exact (b4q (He:=[]) he).2,fun He ρ a w m _ fr hne hr=>.inr ⟨a1u hr hw,.inl ?_⟩⟩;obtain ⟨g',h1,h2⟩:=a2v hr;rw [b1K h1] at he;obtain ⟨q1,_⟩:=b4q (He:=He) he;obtain ⟨v,ρ',w',r1,r2⟩:=a7M htt m fr hne h2 q1 hp;exact ⟨v,ρ',w',r1,r2.mem,r2.ext,r2.far,r2.rep⟩
end
noncomputable section
structure FI where
 nt:Nat
 res:List ResultVar
 code:Code
structure EV where
 tt:Nat→Option a0k
 xt:Nat→Option XI
 ft:Nat→Option FI
 np:Nat→Bool
 orc:Nat→List D→Option D
 mt:Nat→String→Option Nat
 nat:Nat→List D→Option D
structure a9k (C:Ctx)(X:EV):Prop where
 tt:Tab C.P X.tt
 xt:c2E C.P X.xt
 ft:∀ f i,X.ft f=some i→∃ fn,C.P.funcs[f]? = some fn∧fn.body=some i.code∧(fn.name == "runtime.NumGoroutine")=false∧a0E fn.ntmps i.code=true∧fn.ntmps=i.nt∧fn.results.toList=i.res
 orc:∀ f ds d,X.orc f ds=some d→a0b C f ds d∧ArePure ds
 mixed:C.P.follows .mixedOrders=true
 mt:∀ t name f,X.mt t name=some f→∀ v w,(method (C.P.types.size+Made.depth) t v name).run C.P w=.ok (f,v) w
 nat:∀ f ds d,X.nat f ds=some d→a4g C f ds d
noncomputable def d4a (env:Env)(t:Nat):D:=List.rec (motive:=fun _=>D) .any (fun p _ ih=>Bool.rec (motive:=fun _=>D) ih p.2 (Nat.beq p.1 t)) env
theorem b8h (t:Nat):∀ env:Env,d4a env t=env.get t
 | []=>rfl
 | (k,d)::r=>by
  show Bool.rec (motive:=fun _=>D) (d4a r t) d (Nat.beq k t)=_;rw [b8h t r];simp only [Env.get];cases Nat.beq k t<;>rfl
noncomputable def c7n (env:Env)(x:Operand):D:=match x with
 | .tmp t=>d4a env t
 | .const v=>a6J v
 | .global g=>.prim (.pointer (some ⟨g,0,none⟩))
 | .func f=>.clo (.func f) [] []
theorem a8g (env:Env):c7n env=a1g env:=by
 funext x
 cases x<;>first|rfl|exact b8h _ _
noncomputable def d2x (i:Nat)(l:List Nat):Bool:=List.rec (motive:=fun _=>Bool) false (fun j _ ih=>Bool.rec (motive:=fun _=>Bool) ih true (Nat.beq i j)) l
theorem b8y (i:Nat):∀ l:List Nat,d2x i l=a3h i l
 | []=>rfl
 | j::l=>by
  show Bool.rec (motive:=fun _=>Bool) (d2x i l) true (Nat.beq i j)=_;rw [b8y i l];simp only [a3h];cases Nat.beq i j<;>rfl
abbrev a7F:=Nat→List D→Hp→Nat→Option (D × Hp × Nat)
abbrev a6Y:=Nat→List D→Option D
def c1w (b:Bool)(r:D × Hp × Nat):Option (D × Hp × Nat):=match b with
 | true=>some r
 | false=>none
def d2w (tt:Nat→Option a0k)(g:Operand→D)(t:Nat)(x ix:Operand):Option D:=match tt t with
 | some i=>match i.ti with
  | .slice _ esz _ _=>match g ix with
   | .prim (.int _ j)=>match g x with
    | .sl _ sz es=>match Nat.beq sz esz&&decide (0≤j) with
     | true=>match es[j.toNat]? with
      | some d=>some (.pptr d)
      | none=>none
     | false=>none
    | _=>none
   | _=>none
  | _=>none
 | none=>none
def c8g (X:EV)(g:Operand→D)(H:Hp)(n:Nat)(op:Op):Option (D × Hp × Nat):=match evP X.tt g op with
 | some (d,_)=>c1w (okP X.tt g op) (d,H,n+1)
 | none=>none
def d2t (X:EV)(g:Operand→D)(H:Hp)(n:Nat)(op:Op):Option (D × Hp × Nat):=match evQ X.tt X.xt g op with
 | some (d,_)=>c1w (okQ X.xt g op) (d,H,n+1)
 | none=>none
def a4t {α:Type}(a:Option α)(b:Option α):Option α:=match a with
 | some x=>some x
 | none=>b
def d4Y (X:EV)(cl:a7F)(g:Operand→D)(H:Hp)(n:Nat)(op:Op):Option (D × Hp × Nat):=match op with
 | .call ⟨.value fop,args,_⟩=>match g fop with
  | .clo (.func f) first captured=>match X.nat f (first++args.toList.map g++captured) with
   | some d=>some (d,H,n+1)
   | none=>cl f (first++args.toList.map g++captured) H n
  | _=>none
 | .call ⟨.invoke r name,args,_⟩=>match g r with
  | .ifc t d0=>match X.mt t name with
   | some f=>cl f (d0::args.toList.map g) H n
   | none=>none
  | _=>none
 | .call ⟨.builtin .append,_,_⟩=>match evA X.tt H n n g op with
  | some (d,H',_)=>c1w (okA X.tt H g op) (d,H',n+1)
  | none=>none
 | .makeSlice _ _ _=>match evM X.tt n n g op with
  | some (d,e,_)=>c1w (okM X.tt g op) (d,e::H,n+1)
  | none=>none
 | .store _ _ _=>match evS X.tt H g op with
  | some (k,e,_)=>c1w (okS X.tt H g op) (.prim (.tuple #[]),Hp.set H k e,n+1)
  | none=>none
 | .load _ _ | .alloc _ | .box _ _ | .buildSlice _ _ _=>match evL X.tt H n n g op with
  | some (d,ne,_)=>c1w (okL X.tt H g op) (d,a4f ne H,n+1)
  | none=>none
 | .indexAddr t x ix=>a4t (c8g X g H n op) (match d2w X.tt g t x ix with
  | some d=>some (d,H,n+1)
  | none=>none)
 | .makeInterface _ _ | .lookup _ _ _ _=>d2t X g H n op
 | .binOp _ _ _ _ _=>a4t (c8g X g H n op) (d2t X g H n op)
 | _=>c8g X g H n op
def b7C (X:EV)(cl:a7F)(ops:Array Oper)(s:St)(o:Oper):Option (D × Hp × Nat):=match a0N ops s.env o with
 | some true=>d4Y X cl (c7n s.env) s.H s.n o.op
 | some false=>some (.prim (.tuple #[]),s.H,s.n+1)
 | none=>none
def b3n (X:EV)(cl:a7F)(ops:Array Oper):List Oper→St→Option St
 | [],s=>some s
 | o::os,s=>match b7C X cl ops s o with
  | some (d,H',n')=>fzD d fun d=>fzN n' fun n'=>b3n X cl ops os ⟨a1N s.env o.dst d,H',n'⟩
  | none=>none
def isR (d:D)(H:Hp)(n:Nat):D→Hp→Nat→Prop:=fun d1 H1 n1=>d1=d∧H1=H∧n1=n
def a6f (C:Ctx)(cl:a7F):Prop:=∀ f ds H n d H' n',cl f ds H n=some (d,H',n')→a0m C f ds H n (isR d H' n')
def a5o (C:Ctx)(cp:a6Y):Prop:=∀ f ds d,cp f ds=some d→a0b C f ds d∧ArePure ds
section
variable {C:Ctx} {F:Fra} {X:EV} {cl:a7F} {cp:a6Y} {ops:Array Oper}
theorem a2T {b:Bool}{r r':D × Hp × Nat}(h:c1w b r=some r'):b=true∧r=r':=by
 cases b
 ·cases h
 ·cases h;exact ⟨rfl,rfl⟩
theorem b1Z {tt:Nat→Option a0k}{g:Operand→D}{t:Nat}{x ix:Operand}{d:D}(h:d2w tt g t x ix=some d):∃ i e esz eby ez kk j nn es d',tt t=some i∧i.ti=.slice e esz eby ez∧g ix=.prim (.int kk j) ∧
  g x=.sl nn esz es∧0≤j∧es[j.toNat]? = some d'∧d=.pptr d':=by
 unfold d2w at h;split at h<;>first|(cases h;done)|skip
 rename_i i h1;split at h<;>first|(cases h;done)|skip
 rename_i e esz eby ez h2;split at h<;>first|(cases h;done)|skip
 rename_i kk j h3;split at h<;>first|(cases h;done)|skip
 rename_i nn sz es h4;split at h<;>first|(cases h;done)|skip
 rename_i h5;split at h<;>first|(cases h;done)|skip
 rename_i d' h6;cases h;simp only [Bool.and_eq_true,decide_eq_true_eq] at h5;obtain rfl:=Nat.eq_of_beq_eq_true h5.1;exact ⟨i,e,sz,eby,ez,kk,j,nn,es,d',h1,h2,h3,h4,h5.2,h6,rfl⟩
theorem b7D (hX:a9k C X)(hcl:a6f C cl){s:St}{o:Oper}{os:List Oper}{K:St→Prop}{d:D}{H':Hp}{n':Nat}(h:b7C X cl ops s o=some (d,H',n'))
  (hk:OkL C F ops os ⟨a1N s.env o.dst d,H',n'⟩ K):OkL C F ops (o::os) s K:=by
 unfold b7C at h;rw [a8g] at h;split at h<;>first|(cases h;done)|skip
 ·rename_i hw
  have pe:c8g X (a1g s.env) s.H s.n o.op=some (d,H',n')→OkL C F ops (o::os) s K:=fun h=>by
   unfold c8g at h;split at h<;>first|(cases h;done)|skip
   rename_i hp;obtain ⟨hb,hr⟩:=a2T h;cases hr;exact OkL.p hX.tt hw hp (b8R hp hb) hk
  have qe:d2t X (a1g s.env) s.H s.n o.op=some (d,H',n')→OkL C F ops (o::os) s K:=fun h=>by
   unfold d2t at h;split at h<;>first|(cases h;done)|skip
   rename_i hp;obtain ⟨hb,hr⟩:=a2T h;cases hr;exact OkL.q hX.tt hX.xt hw hp (c4m hp hb) hk
  have le:∀ r,(match evL X.tt s.H s.n s.n (a1g s.env) o.op with
    | some (d,ne,_)=>c1w (okL X.tt s.H (a1g s.env) o.op) (d,a4f ne s.H,s.n+1)
    | none=>none)=some r→r=(d,H',n')→OkL C F ops (o::os) s K:=fun r h hr=>by
   split at h<;>first|(cases h;done)|skip
   rename_i hp;obtain ⟨hb,hr'⟩:=a2T h;rw [← hr'] at hr;cases hr;exact OkL.l' s.n hX.tt hw hp (b8Q hp hb) hk
  unfold d4Y at h;split at h
  ·rename_i fop args tys ho
   split at h<;>first|(cases h;done)|skip
   rename_i f first captured hf
   split at h
   ·rename_i hn
    cases h;exact OkL.nat hw ho hf rfl (hX.nat _ _ _ hn) hk
   refine OkL.callH hw ho hf rfl (hcl _ _ _ _ _ _ _ h) fun d1 H1 n1 hΦ=>?_
   obtain ⟨rfl,rfl,rfl⟩:=hΦ;exact hk
  ·rename_i r name args tys ho
   split at h<;>first|(cases h;done)|skip
   rename_i t d0 hr;split at h<;>first|(cases h;done)|skip
   rename_i f hf;refine OkL.invH hw ho hr (hX.mt _ _ _ hf) rfl (hcl _ _ _ _ _ _ _ h) fun d1 H1 n1 hΦ=>?_
   obtain ⟨rfl,rfl,rfl⟩:=hΦ;exact hk
  ·split at h<;>first|(cases h;done)|skip
   rename_i hp;obtain ⟨hb,hr⟩:=a2T h;cases hr;exact OkL.app' s.n hX.tt hw hp (b8M hp hb) hk
  ·split at h<;>first|(cases h;done)|skip
   rename_i hp;obtain ⟨hb,hr⟩:=a2T h;cases hr;exact OkL.mk' s.n hX.tt hw hp (d1E hp hb) hk
  ·split at h<;>first|(cases h;done)|skip
   rename_i hp;obtain ⟨hb,hr⟩:=a2T h;cases hr;exact OkL.store hX.tt hw hp (c4n hp hb) hk
  ·exact le _ h rfl
  ·exact le _ h rfl
  ·exact le _ h rfl
  ·exact le _ h rfl
  ·rename_i t x ix ho
   unfold a4t at h;split at h
   ·rename_i hr;cases h;exact pe hr
   ·split at h<;>first|(cases h;done)|skip
    rename_i hi;cases h;obtain ⟨i,e,esz,eby,ez,kk,j,nn,es,d',a1,a2,a3,a4,a5,a6,rfl⟩:=b1Z hi;exact OkL.idx hX.tt hw ho a1 a2 a3 a4 a5 a6 hk
  ·exact qe h
  ·exact qe h
  ·unfold a4t at h
   split at h
   ·rename_i hr;cases h;exact pe hr
   ·exact qe h
  ·exact pe h
 ·rename_i hw
  cases h;exact OkL.skip hw hk
theorem a7o (hX:a9k C X)(hcl:a6f C cl){K:St→Prop}:∀ {os:List Oper} {s s':St},b3n X cl ops os s=some s'→K s'→OkL C F ops os s K
 | [],s,s',h,hk=>by
  simp only [b3n,Option.some.injEq] at h;subst h;exact OkL.nil hk
 | o::os,s,s',h,hk=>by
  simp only [b3n] at h;split at h<;>first|(cases h;done)|skip
  rename_i hs;rw [a9L,a8f] at h;exact b7D hX hcl hs (a7o hX hcl h hk)
theorem a0s.l' {H:Hp}{g:Nat}{env:Env}{o:Oper}{tt:Nat→Option a0k}(k:Nat)(htt:Tab C.P tt){d:D}{ne:Option Ent}{p:Prop}(hw:a0N ops env o=some true)(he:evL tt H g k (a1g env) o.op=some (d,ne,p))(hp:p):a0s C F ops H g env o d ne:=by
 refine ⟨fun e h=>by subst h;exact b7w he,fun He ρ a w m hsub fr hne hr=>.inr ⟨a1u hr hw,.inl ?_⟩⟩;obtain ⟨g',h1,h2⟩:=a2v hr;obtain ⟨v,ρ',w',r1,r2⟩:=c2S (g:=g') hsub htt m fr hne h2 (by rw [← b7v h1];exact he) hp;exact ⟨v,ρ',w',r1,r2⟩
theorem b7A {tt:Nat→Option a0k}{xt:Nat→Option XI}{g g':Operand→D}{op:Op}(h:∀ x∈op.operands,g x=g' x):evQ tt xt g op=evQ tt xt g' op:=by
 cases op<;>simp only [Op.operands] at h<;>try rfl
 case binOp op t x y yt=>simp only [evQ];rw [h x (by simp),h y (by simp)]
 case makeInterface t x=>simp only [evQ];rw [h x (by simp)]
 case lookup t x ix ok=>simp only [evQ];rw [h x (by simp),h ix (by simp)]
theorem a0s.q {H:Hp}{g:Nat}{env:Env}{o:Oper}{tt:Nat→Option a0k}{xt:Nat→Option XI}(htt:Tab C.P tt)(hxt:c2E C.P xt){d:D}{p:Prop}(hw:a0N ops env o=some true)(he:evQ tt xt (a1g env) o.op=some (d,p))(hp:p) :
  a0s C F ops H g env o d none:=by
 refine ⟨by simp,fun He ρ a w m _ _ _ hr=>.inr ⟨a1u hr hw,.inl ?_⟩⟩;obtain ⟨g',h1,h2⟩:=a2v hr;obtain ⟨v,r1,r2⟩:=c2T (g:=g') htt hxt h2 (by rw [← b7A h1];exact he) hp;exact ⟨v,ρ,w,r1,m,.refl _ _ _,fun _ _ _=>rfl,r2⟩
def c7q (b:Bool)(r:D × Option Ent):Option (D × Option Ent):=match b with
 | true=>some r
 | false=>none
theorem a5Q {b:Bool}{r r':D × Option Ent}(h:c7q b r=some r'):b=true∧r=r':=by
 cases b
 ·cases h
 ·cases h;exact ⟨rfl,rfl⟩
def stP (X:EV)(g:Operand→D)(op:Op):Option (D × Option Ent):=match evP X.tt g op with
 | some (d,_)=>c7q (okP X.tt g op) (d,none)
 | none=>none
def stQ (X:EV)(g:Operand→D)(op:Op):Option (D × Option Ent):=match evQ X.tt X.xt g op with
 | some (d,_)=>c7q (okQ X.xt g op) (d,none)
 | none=>none
def d5c (X:EV)(cp:a6Y)(g:Operand→D)(H:Hp)(n:Nat)(op:Op):Option (D × Option Ent):=match op with
 | .call ⟨.value fop,args,_⟩=>match g fop with
  | .clo (.func f) first captured=>match X.nat f (first++args.toList.map g++captured) with
   | some d=>some (d,none)
   | none=>match cp f (first++args.toList.map g++captured) with
    | some d=>some (d,none)
    | none=>none
  | _=>none
 | .call ⟨.builtin .append,_,_⟩=>match evA X.tt [] n n g op with
  | some (d,[e],_)=>c7q (okA X.tt [] g op) (d,some e)
  | _=>none
 | .load _ _ | .alloc _ | .box _ _ | .buildSlice _ _ _=>match evL X.tt H n n g op with
  | some (d,ne,_)=>c7q (okL X.tt H g op) (d,ne)
  | none=>none
 | .indexAddr t x ix=>a4t (stP X g op) (match d2w X.tt g t x ix with
  | some d=>some (d,none)
  | none=>none)
 | .makeInterface _ _ | .lookup _ _ _ _=>stQ X g op
 | .binOp _ _ _ _ _=>a4t (stP X g op) (stQ X g op)
 | _=>stP X g op
def b2G (X:EV)(cp:a6Y)(ops:Array Oper)(H:Hp)(n:Nat)(env:Env)(o:Oper):Option (D × Option Ent):=match a0N ops env o with
 | some true=>d5c X cp (c7n env) H n o.op
 | some false=>some (.prim (.tuple #[]),none)
 | none=>none
theorem a8U (hX:a9k C X)(hcp:a5o C cp){H:Hp}{n:Nat}{env:Env}{o:Oper}{d:D}{ne:Option Ent}(h:b2G X cp ops H n env o=some (d,ne)):a0s C F ops H n env o d ne:=by
 unfold b2G at h;rw [a8g] at h;split at h<;>first|(cases h;done)|skip
 ·rename_i hw
  have pe:stP X (a1g env) o.op=some (d,ne)→a0s C F ops H n env o d ne:=fun h=>by
   unfold stP at h;split at h<;>first|(cases h;done)|skip
   rename_i hp;obtain ⟨hb,hr⟩:=a5Q h;cases hr;exact a0s.p hX.tt hw hp (b8R hp hb)
  have qe:stQ X (a1g env) o.op=some (d,ne)→a0s C F ops H n env o d ne:=fun h=>by
   unfold stQ at h;split at h<;>first|(cases h;done)|skip
   rename_i hp;obtain ⟨hb,hr⟩:=a5Q h;cases hr;exact a0s.q hX.tt hX.xt hw hp (c4m hp hb)
  have le:∀ r,(match evL X.tt H n n (a1g env) o.op with
    | some (d,ne,_)=>c7q (okL X.tt H (a1g env) o.op) (d,ne)
    | none=>none)=some r→r=(d,ne)→a0s C F ops H n env o d ne:=fun r h hr=>by
   split at h<;>first|(cases h;done)|skip
   rename_i hp;obtain ⟨hb,hr'⟩:=a5Q h;rw [← hr'] at hr;cases hr;exact a0s.l' n hX.tt hw hp (b8Q hp hb)
  unfold d5c at h;split at h
  ·rename_i fop args tys ho
   split at h<;>first|(cases h;done)|skip
   rename_i f first captured hf
   split at h
   ·rename_i hn
    cases h;exact a0s.nat hw ho hf rfl (hX.nat _ _ _ hn)
   split at h<;>first|(cases h;done)|skip
   rename_i hc;cases h;obtain ⟨c1,c2⟩:=hcp _ _ _ hc;exact a0s.call hw ho hf rfl c1 c2
  ·split at h<;>first|(cases h;done)|skip
   rename_i hp;obtain ⟨hb,hr⟩:=a5Q h;cases hr;exact a0s.app0 n hX.tt hw hp (b8M hp hb)
  ·exact le _ h rfl
  ·exact le _ h rfl
  ·exact le _ h rfl
  ·exact le _ h rfl
  ·rename_i t x ix ho
   unfold a4t at h;split at h
   ·rename_i hr;cases h;exact pe hr
   ·split at h<;>first|(cases h;done)|skip
    rename_i hi;cases h;obtain ⟨i,e,esz,eby,ez,kk,j,nn,es,d',a1,a2,a3,a4,a5,a6,rfl⟩:=b1Z hi;exact a0s.idx hX.tt hw ho a1 a2 a3 a4 a5 a6
  ·exact qe h
  ·exact qe h
  ·unfold a4t at h
   split at h
   ·rename_i hr;cases h;exact pe hr
   ·exact qe h
  ·exact pe h
 ·rename_i hw
  cases h;exact a0s.skip hw
def b5H (X:EV)(cp:a6Y)(ops:Array Oper)(H:Hp)(n:Nat):List Nat→Env→Hp→Option (Env × Hp)
 | [],env,N=>some (env,N)
 | i::l,env,N=>match ops[i]? with
  | some o=>match b2G X cp ops H (n+i) env o with
   | some (d,ne)=>fzD d fun d=>b5H X cp ops H n l (a1N env o.dst d) (a4f ne N)
   | none=>none
  | none=>none
theorem b4r (hX:a9k C X)(hcp:a5o C cp){H:Hp}{n:Nat}:∀ {l:List Nat} {env env':Env} {N N':Hp},b5H X cp ops H n l env N=some (env',N')→DTr C F ops H n l env N env' N'
 | [],env,env',N,N',h=>by
  simp only [b5H,Option.some.injEq,Prod.mk.injEq] at h;obtain ⟨rfl,rfl⟩:=h;exact .nil _ _
 | i::l,env,env',N,N',h=>by
  simp only [b5H] at h;split at h<;>first|(cases h;done)|skip
  rename_i o ho;split at h<;>first|(cases h;done)|skip
  rename_i d ne hs;rw [a9L] at h;exact .cons ho (a8U hX hcp hs) (b4r hX hcp h)
def b2q (ops:Array Oper)(done:List Nat):List Nat→Option (Nat × List Nat)
 | []=>none
 | i::r=>match a4h (a2z ops i) done with
  | true=>some (i,r)
  | false=>match b2q ops done r with
   | some (j,r')=>some (j,i::r')
   | none=>none
def d4O (ops:Array Oper):Nat→List Nat→List Nat→List Nat
 | 0,done,rest=>done.reverse++rest
 | f+1,done,rest=>match b2q ops done rest with
  | some (i,rest')=>d4O ops f (i::done) rest'
  | none=>done.reverse++rest
def b9S (clo:List (Nat × List Nat)):List Nat→List Nat→List Nat→List Nat→List Nat × List Nat
 | _,[],pre,cur=>(pre.reverse,cur.reverse)
 | done,i::l,pre,cur=>match a4h done (a2a clo i) with
  | true=>b9S clo (i::done) l pre (i::cur)
  | false=>b9S clo (i::done) l (i::(cur++pre)) []
def d4m (ops:Array Oper):List Nat × List Nat :=
 b9S (b6s ops (d4O ops ops.size [] (List.range ops.size)) []) [] (d4O ops ops.size [] (List.range ops.size)) [] []
def d5K:Op→Bool
 | .store _ _ _=>true
 | .call ⟨.builtin .append,_,_⟩=>true
 | _=>false
def c8i (ops:Array Oper):List Nat→Option Nat
 | []=>none
 | i::l=>match ops[i]? with
  | some o=>match d5K o.op with
   | true=>some i
   | false=>c8i ops l
  | none=>none
def d5e (i:Nat):List Nat→List Nat
 | []=>[]
 | j::l=>match Nat.beq i j with
  | true=>[]
  | false=>j::d5e i l
def d4P (g:Operand→D):Op→Option Nat
 | .store _ x _=>match g x with
  | .optr k _ _ _ _=>some k
  | _=>none
 | .call ⟨.builtin .append,args,_⟩=>match args.toList with
  | [s,_]=>match g s with
   | .osl k _ _ _ _=>some k
   | _=>none
  | _=>none
 | _=>none
def d3a (X:EV)(e:Ent)(n:Nat)(g:Operand→D)(op:Op):Option (D × Ent):=match op with
 | .store _ _ _=>match evS X.tt [e] g op with
  | some (_,e',_)=>match okS X.tt [e] g op with
   | true=>some (.prim (.tuple #[]),e')
   | false=>none
  | none=>none
 | _=>match evA X.tt [e] n n g op with
  | some (d,[e'],_)=>match okA X.tt [e] g op with
   | true=>some (d,e')
   | false=>none
  | _=>none
def b8p (ia:Option Nat)(i:Nat):Bool:=match ia with
 | some j=>Nat.beq i j
 | none=>false
def a7d (ia:Option Nat)(accE:Option Ent)(R:Hp)(b:Bool):Hp:=match ia with
 | none=>match accE with
  | some e=>match b with
   | true=>e::R
   | false=>R
  | none=>R
 | some _=>R
def a5i (X:EV)(cp:a6Y)(ops:Array Oper)(iw:Nat)(ia:Option Nat)(R:Hp)(clo:List Nat)(n:Nat):List Nat→Env→Hp→Option Ent→Option Ent→Option (Env × Hp × Ent × Ent)
 | [],env,N,accE,acc=>match accE with
  | some e=>match acc with
   | some e'=>some (env,N,e,e')
   | none=>none
  | none=>none
 | i::l,env,N,accE,acc=>match ops[i]? with
  | some o=>match Nat.beq i iw with
   | true=>match acc with
    | some _=>none
    | none=>match accE with
     | some e=>match a0N ops env o with
      | some true=>match d3a X e (n+i) (c7n env) o.op with
       | some (d,e')=>a5i X cp ops iw ia R clo n l (a1N env o.dst d) N accE (some e')
       | none=>none
      | _=>none
     | none=>none
   | false=>match b8p ia i with
    | true=>match accE with
     | some _=>none
     | none=>match b2G X cp ops R (n+i) env o with
      | some (d,some e)=>fzD d fun d=>a5i X cp ops iw ia R clo n l (a1N env o.dst d) N (some e) acc
      | _=>none
    | false=>match b2G X cp ops (a7d ia accE R (a3h i clo)) (n+i) env o with
     | some (d,ne)=>fzD d fun d=>a5i X cp ops iw ia R clo n l (a1N env o.dst d) (a4f ne N) accE acc
     | none=>none
  | none=>none
theorem a2o {iw:Nat}{ia:Option Nat}{R:Hp}{clo:List Nat}{n:Nat}:∀ {l:List Nat} {env env':Env} {N N':Hp} {accE acc:Option Ent} {e e':Ent},a5i X cp ops iw ia R clo n l env N accE acc=some (env',N',e,e') →
  (∀ a,accE=some a→e=a)∧(∀ a,acc=some a→e'=a)
 | [],_,_,_,_,_,_,_,_,h=>by
  simp only [a5i] at h;split at h<;>first|(cases h;done)|skip
  split at h<;>first|(cases h;done)|skip
  simp only [Option.some.injEq,Prod.mk.injEq] at h;exact ⟨fun a ha=>by cases ha;exact h.2.2.1.symm,fun a ha=>by cases ha;exact h.2.2.2.symm⟩
 | i::l,_,_,_,_,_,_,_,_,h=>by
  simp only [a5i] at h;split at h<;>first|(cases h;done)|skip
  split at h
  ·split at h<;>first|(cases h;done)|skip
   split at h<;>first|(cases h;done)|skip
   split at h<;>first|(cases h;done)|skip
   split at h<;>first|(cases h;done)|skip
   exact ⟨(a2o h).1,by simp⟩
  ·split at h
   ·split at h<;>first|(cases h;done)|skip
    split at h<;>first|(cases h;done)|skip
    rw [a9L] at h;exact ⟨by simp,(a2o h).2⟩
   ·split at h<;>first|(cases h;done)|skip
    rw [a9L] at h;exact a2o h
theorem c5u (hX:a9k C X){W:WR}{n:Nat}{env:Env}{o:Oper}{d:D}(hw:a0N ops env o=some true)(h:d3a X W.e n (a1g env) o.op=some (d,W.e')):a2R C F ops W n env o d:=by
 unfold d3a at h;split at h
 ·split at h<;>first|(cases h;done)|skip
  rename_i he;split at h<;>first|(cases h;done)|skip
  rename_i hk;simp only [Option.some.injEq,Prod.mk.injEq] at h;obtain ⟨rfl,h2⟩:=h;rw [h2] at he;exact a2R.store hX.tt hw he (c4n he hk)
 ·split at h<;>first|(cases h;done)|skip
  rename_i he;split at h<;>first|(cases h;done)|skip
  rename_i hk;simp only [Option.some.injEq,Prod.mk.injEq] at h;obtain ⟨rfl,h2⟩:=h;rw [h2] at he;exact a2R.app n hX.tt hw he (b8M he hk)
theorem a7s {ia:Option Nat}{i:Nat}:b8p ia i=true↔ia=some i:=by
 cases ia with
 | none=>simp [b8p]
 | some j =>
  simp only [b8p,Option.some.injEq];exact ⟨fun h=>(Nat.eq_of_beq_eq_true h).symm,fun h=>by rw [h];exact Nat.beq_refl _⟩
theorem a5K (hX:a9k C X)(hcp:a5o C cp){W:WR}(hwa:W.ia≠some W.iw){clo:List Nat}(hclo:∀ j∈clo,a2l ops W.iw j){n:Nat}:∀ {l:List Nat} {env env':Env} {N N':Hp} {accE acc:Option Ent},
  a5i X cp ops W.iw W.ia W.R clo n l env N accE acc=some (env',N',W.e,W.e')→b6z C F ops W n l env N env' N'
 | [],env,env',N,N',accE,acc,h=>by
  simp only [a5i] at h;split at h<;>first|(cases h;done)|skip
  split at h<;>first|(cases h;done)|skip
  simp only [Option.some.injEq,Prod.mk.injEq] at h;obtain ⟨rfl,rfl,_⟩:=h;exact .nil _ _
 | i::l,env,env',N,N',accE,acc,h=>by
  simp only [a5i,a8g] at h;split at h<;>first|(cases h;done)|skip
  rename_i o ho;split at h
  ·rename_i hb
   have hb:=Nat.eq_of_beq_eq_true hb;split at h<;>first|(cases h;done)|skip
   split at h<;>first|(cases h;done)|skip
   rename_i e0;split at h<;>first|(cases h;done)|skip
   rename_i hw;split at h<;>first|(cases h;done)|skip
   rename_i d e1 he;obtain ⟨h1,h2⟩:=a2o h;rw [← h1 _ rfl,← h2 _ rfl] at he;exact .cons (ne:=none) ho (.inr (.inl ⟨hb,by rw [hb];exact hwa,rfl,c5u hX hw he⟩)) (a5K hX hcp hwa hclo h)
  ·rename_i hb
   have hne:i≠W.iw:=fun hi=>by rw [hi,Nat.beq_refl] at hb;cases hb
   split at h
   ·rename_i hi
    have hi:=a7s.1 hi;split at h<;>first|(cases h;done)|skip
    split at h<;>first|(cases h;done)|skip
    rename_i d e0 hs;rw [a9L] at h;have h1:=(a2o h).1 _ rfl;rw [← h1] at hs;exact .cons (ne:=none) ho (.inr (.inr ⟨hne,hi,rfl,a8U (F:=F) hX hcp hs⟩)) (a5K hX hcp hwa hclo h)
   ·rename_i hi
    have hi:W.ia≠some i:=fun h=>by rw [a7s.2 h] at hi;cases hi
    split at h<;>first|(cases h;done)|skip
    rename_i d ne hs;rw [a9L] at h;have hacc:=(a2o h).1;refine .cons ho (.inl ⟨hne,hi,?_⟩) (a5K hX hcp hwa hclo h);have hst:=a8U (F:=F) hX hcp hs;unfold a7d at hst;cases hia:W.ia with
    | none =>
     rw [hia] at hst;cases accE with
     | none=>exact .inr hst
     | some a =>
      have:=hacc a rfl
      subst this;dsimp only at hst;cases hm:a3h i clo with
      | true=>rw [hm] at hst;exact .inl ⟨rfl,hclo i (a1f.1 hm),hst⟩
      | false=>rw [hm] at hst;exact .inr hst
    | some ia=>rw [hia] at hst;exact .inr hst
def c4L (s:St)(N1:Hp)(k:Nat):Option (Option Nat × Option Ent × Hp):=match Hp.get s.H k with
 | some e=>some (none,some e,Hp.del s.H k)
 | none=>match Hp.get N1 k with
  | some e=>some (some (e.g - s.n),none,s.H)
  | none=>none
def d5a (n:Nat)(pre clo:List Nat)(e:Ent)(iw:Nat):Option Nat→Bool
 | none=>true
 | some ia=>Nat.beq e.g (n+ia)&&a3h ia clo&&a3h ia pre && !(Nat.beq ia iw)
def b7t (X:EV)(cl:a7F)(cp:a6Y)(ops:Array Oper)(pre suf:List Nat)(iw:Nat)(s:St):Option St:=match b5H X cp ops s.H s.n (d5e iw pre) s.env [] with
 | some (env1,N1)=>match d4P (c7n env1) (ops.getD iw default).op with
  | some k=>match c4L s N1 k with
   | some (ia,accE,R)=>match a3h iw pre with
    | true=>match a5i X cp ops iw ia R (a2a (b6s ops (pre++suf) []) iw) s.n pre s.env [] accE none with
     | some (env,N,e,e')=>match (Nat.beq e'.g e.g||Nat.beq e'.g (s.n+iw))&&d5a s.n pre (a2a (b6s ops (pre++suf) []) iw) e iw ia with
      | true=>fzN (s.n+ops.size) fun n=>b3n X cl ops (suf.map fun j=>ops.getD j default) ⟨env,N++e'::R,n⟩
      | false=>none
     | none=>none
    | false=>none
   | none=>none
  | none=>none
 | none=>none
def b7s (X:EV)(cl:a7F)(cp:a6Y)(ops:Array Oper)(s:St):Option St:=match d4m ops with
 | (pre,suf)=>match b4g ops pre suf with
  | true=>match (match c8i ops pre with
    | some iw=>b7t X cl cp ops pre suf iw s
    | none=>none) with
   | some s'=>some s'
   | none=>match b5H X cp ops s.H s.n pre s.env [] with
    | some (env,N)=>fzN (s.n+ops.size) fun n=>b3n X cl ops (suf.map fun j=>ops.getD j default) ⟨env,N++s.H,n⟩
    | none=>none
  | false=>none
noncomputable def dd (e:Env):List Nat→Env:=List.rec (motive:=fun _=>List Nat→Env) (fun _=>[]) (fun p _ ih seen=>Bool.rec (motive:=fun _=>Env) (p::ih (p.1::seen)) (ih seen) (d2x p.1 seen)) e
theorem c5l (k:Nat)(d:D)(r:Env)(seen:List Nat):dd ((k,d)::r) seen=match a3h k seen with
  | true=>dd r seen
  | false=>(k,d)::dd r (k::seen):=by
 show Bool.rec (motive:=fun _=>Env) _ _ (d2x k seen)=_;rw [b8y];cases a3h k seen<;>rfl
theorem b7c:∀ (e:Env) (seen:List Nat) (t:Nat),t∉seen→(dd e seen).get t=e.get t
 | [],_,_,_=>rfl
 | (k,d)::r,seen,t,h=>by
  rw [c5l];cases hb:a3h k seen with
  | true =>
   dsimp only;have hk:k≠t:=fun hk=>h (hk ▸ a1f.1 hb)
   rw [b7c r seen t h,Env.get_cons,if_neg hk]
  | false =>
   dsimp only;rw [Env.get_cons,Env.get_cons]
   by_cases hk:k=t
   ·rw [if_pos hk,if_pos hk]
   ·rw [if_neg hk,if_neg hk,b7c r (k::seen) t (by simp;exact ⟨fun h=>hk h.symm,h⟩)]
def c7w (f:D→List Nat→List Nat):List D→List Nat→List Nat
 | [],acc=>acc
 | d::l,acc=>c7w f l (f d acc)
def c2d:Nat→D→List Nat→List Nat
 | 0,_,acc=>acc
 | n+1,d,acc=>match d with
  | .osl k _ _ _ _=>k::acc
  | .optr k _ _ _ _=>k::acc
  | .agg l=>c7w (c2d n) l acc
  | .tup l=>c7w (c2d n) l acc
  | .clo _ a b=>c7w (c2d n) a (c7w (c2d n) b acc)
  | .gd _ d=>c2d n d acc
  | .ifc _ d=>c2d n d acc
  | _=>acc
def c4v:Env→List Nat→List Nat
 | [],acc=>acc
 | (_,d)::r,acc=>c4v r (c2d 5 d acc)
def c2e:Hp→List Nat→List Nat
 | [],acc=>acc
 | e::r,acc=>c2e r (c7w (c2d 5) e.es acc)
def b2d (p:Ent→Bool):Hp→Hp
 | []=>[]
 | e::r=>match p e with
  | true=>e::b2d p r
  | false=>b2d p r
theorem a5S (p:Ent→Bool):∀ H:Hp,(b2d p H).Sublist H
 | []=>.slnil
 | e::r=>by
  simp only [b2d];split
  ·exact (a5S p r).cons_cons e
  ·exact (a5S p r).cons e
def c7m {α:Type}:List Nat→(List Nat→α)→α
 | [],k=>k []
 | n::l,k=>fzN n fun n=>c7m l fun l=>k (n::l)
theorem b0F {α:Type}:∀ (l:List Nat) (k:List Nat→α),c7m l k=k l
 | [],_=>rfl
 | n::l,k=>by simp only [c7m,a8f,b0F l]
def d1d {α:Type}:Hp→(Hp→α)→α
 | [],k=>k []
 | e::l,k=>d1d l fun l=>k (e::l)
theorem b3r {α:Type}:∀ (l:Hp) (k:Hp→α),d1d l k=k l
 | [],_=>rfl
 | e::l,k=>by simp only [d1d,b3r l]
def gcK {α:Type}(n:Nat)(env:Env)(H:Hp)(k:Hp→α):α:=c7m (c2e H (c4v env [])) fun ks=>d1d (b2d (fun e=>match Nat.blt e.g n with
  | true=>true
  | false=>a3h e.k ks) H) k
theorem d1g {α:Type}(n:Nat)(env:Env)(H:Hp)(k:Hp→α):∃ H':Hp,H'.Sublist H∧gcK n env H k=k H':=⟨_,a5S _ _,by unfold gcK;rw [b0F,b3r]⟩
def gcR {α:Type}(n:Nat)(d:D)(H:Hp)(k:Hp→α):α :=
 c7m (c2e (b2d (fun e=>Nat.blt e.g n) H) (c2d 5 d [])) fun ks=>c7m (c2e (b2d (fun e=>a3h e.k ks) H) ks) fun ks=>d1d (b2d (fun e=>match Nat.blt e.g n with
  | true=>true
  | false=>a3h e.k ks) H) k
theorem d1h {α:Type}(n:Nat)(d:D)(H:Hp)(k:Hp→α):∃ H':Hp,H'.Sublist H∧gcR n d H k=k H':=⟨_,a5S _ _,by unfold gcR;rw [b0F,b0F,b3r]⟩
def b8w (f:St→Option (Exit × St))(n0:Nat):Nat→St→Option (Exit × St)
 | 0,_=>none
 | k+1,s=>gcK n0 s.env s.H fun H=>match f ⟨dd s.env [],H,s.n⟩ with
  | some (.normal,s')=>b8w f n0 k s'
  | r=>r
def a1w (X:EV)(cl:a7F)(cp:a6Y)(lf:Nat):Code→St→Option (Exit × St)
 | .skip,s=>some (.normal,s)
 | .region _ ops draw,s=>match draw with
  | true=>match b7s X cl cp ops s with
   | some s'=>some (.normal,s')
   | none=>none
  | false=>match b3n X cl ops ops.toList s with
   | some s'=>some (.normal,s')
   | none=>none
 | .seq a b,s=>match a1w X cl cp lf a s with
  | some (.normal,s')=>a1w X cl cp lf b s'
  | r=>r
 | .cond c a b,s=>match c7n s.env c with
  | .prim (.bool true)=>a1w X cl cp lf a s
  | .prim (.bool false)=>a1w X cl cp lf b s
  | _=>none
 | .block i b,s=>match a1w X cl cp lf b s with
  | some (.exit j,s')=>match Nat.beq j i with
   | true=>some (.normal,s')
   | false=>some (.exit j,s')
  | r=>r
 | .loop b,s=>b8w (a1w X cl cp lf b) (lf / 1048576) (lf%1048576) s
 | .exit i,s=>some (.exit i,s)
 | .ret,s=>some (.ret,s)
 | _,_=>none
def isS (e:Exit)(s:St):Exit→St→Prop:=fun e1 s1=>e1=e∧s1=s
theorem Ok.envEq {c:Code}{s s2:St}{Q:Exit→St→Prop}(he:∀ t,s2.env.get t=s.env.get t)(hH:s2.H=s.H)(hn:s2.n=s.n)(h:Ok C F c s2 Q):Ok C F c s Q :=
 fun hd ρ a w hs=>h hd ρ a w ⟨by rw [hH];exact hs.mem,by rw [hn];exact hs.fresh,by rw [hH,hn];exact hs.gen,fun t=>by rw [he,hH];exact hs.env t,hs.nt,hs.dfr⟩
theorem Ok.subH {c:Code}{env:Env}{H H':Hp}{n:Nat}{Q:Exit→St→Prop}(hs:H'.Sublist H)(h:Ok C F c ⟨env,H',n⟩ Q):Ok C F c ⟨env,H,n⟩ Q :=
 fun hd ρ a w hS=>by
  obtain ⟨m,hO⟩:=hS.mem.sub hs;exact h hd ρ a w ⟨m,hS.fresh,fun e he=>hS.gen e (hs.subset he),fun t=>(hS.env t).anti hO,hS.nt,hS.dfr⟩
theorem a0m.subH {f:Nat}{ds:List D}{H H1 H2:Hp}{n n':Nat}{d:D}(hs:H2.Sublist H1)(h:a0m C f ds H n (isR d H1 n')):a0m C f ds H n (isR d H2 n'):=by
 refine ⟨h.1,fun F ρ w vs m hfr hg hvs hr=>(h.2 F ρ w vs m hfr hg hvs hr).mono ?_⟩;rintro e w' ⟨v,d',H',n2,ρ',rfl,⟨rfl,rfl,rfl⟩,m',x,fr,gn,rep⟩;obtain ⟨m2,hO⟩:=m'.sub hs;exact ⟨v,_,_,_,ρ',rfl,⟨rfl,rfl,rfl⟩,m2,⟨x.size,x.link,fun b hb hb'=>⟨fun h=>(x.pure b hb hb').1 (hO b h),(x.pure b hb hb').2⟩,x.shape⟩,fr,fun e he=>gn e (hs.subset he),rep.anti hO⟩
theorem b7u (hX:a9k C X)(hcl:a6f C cl)(hcp:a5o C cp){i:Nat}{s s':St}(h:b7s X cl cp ops s=some s'):Ok C F (.region i ops true) s (isS .normal s'):=by
 unfold b7s at h;split at h;rename_i pre suf ho;split at h<;>first|(cases h;done)|skip
 rename_i hc;split at h
 ·rename_i s1 hh
  cases h
  revert hh
  intro h;split at h<;>first|(cases h;done)|skip
  rename_i iw _;unfold b7t at h;simp only [a8g] at h;split at h<;>first|(cases h;done)|skip
  split at h<;>first|(cases h;done)|skip
  split at h<;>first|(cases h;done)|skip
  rename_i k _ ia accE R hwb;split at h<;>first|(cases h;done)|skip
  rename_i hm;split at h<;>first|(cases h;done)|skip
  rename_i env N e e' hp;split at h<;>first|(cases h;done)|skip
  rename_i hg;rw [a8f] at h;simp only [Bool.and_eq_true,Bool.or_eq_true] at hg;obtain ⟨hg1,hg2⟩:=hg;have hreach:∀ j∈a2a (b6s ops (pre++suf) []) iw,a2l ops iw j:=fun j hj=>a3R (a4L _ _ (by simp)) _ _ hj
  have hia:∀ j,ia=some j→e.g=s.n+j∧a2l ops iw j∧j∈pre∧j≠iw:=fun j hj=>by
   subst hj;simp only [d5a,Bool.and_eq_true,Bool.not_eq_true'] at hg2;exact ⟨Nat.eq_of_beq_eq_true hg2.1.1.1,hreach j (a1f.1 hg2.1.1.2),a1f.1 hg2.1.2,fun h=>by rw [h,Nat.beq_refl] at hg2;cases hg2.2⟩
  have hacc:=(a2o hp).1;have hst:s.H.Perm (WR.start ⟨iw,ia,e,e',R⟩):=by
   unfold c4L at hwb;split at hwb
   ·rename_i e0 he
    cases hwb;obtain ⟨H1,H2,q1,_,q3⟩:=Hp.set_split e0 he;rw [q3,hacc e0 rfl];unfold WR.start;rw [q1];exact List.perm_middle
   ·split at hwb<;>first|(cases hwb;done)|skip
    cases hwb;exact List.Perm.refl _
  exact Ok.drawW (W:=⟨iw,ia,e,e',R⟩) hX.mixed hc hst (fun j hj=>⟨(hia j hj).1,(hia j hj).2.1,(hia j hj).2.2.1⟩) (a1f.1 hm) (hg1.imp Nat.eq_of_beq_eq_true Nat.eq_of_beq_eq_true)
   (a5K (W:=⟨iw,ia,e,e',R⟩) hX hcp (fun h=>(hia iw h).2.2.2 rfl) hreach hp) (a7o hX hcl h ⟨rfl,rfl⟩)
 ·split at h<;>first|(cases h;done)|skip
  rename_i env N hp;rw [a8f] at h;exact Ok.draw hX.mixed hc (b4r hX hcp hp) (a7o hX hcl h ⟨rfl,rfl⟩)
theorem a1F (hX:a9k C X)(hcl:a6f C cl)(hcp:a5o C cp){lf:Nat}:∀ {c:Code} {s s':St} {e:Exit},a1w X cl cp lf c s=some (e,s')→Ok C F c s (isS e s')
 | .skip,s,s',e,h=>by simp only [a1w,Option.some.injEq,Prod.mk.injEq] at h;obtain ⟨rfl,rfl⟩:=h;exact Ok.skip ⟨rfl,rfl⟩
 | .region i ops draw,s,s',e,h=>by
  simp only [a1w] at h;split at h
  ·split at h<;>first|(cases h;done)|skip
   rename_i hd;cases h;exact b7u hX hcl hcp hd
  ·split at h<;>first|(cases h;done)|skip
   rename_i hd;cases h;exact Ok.region (a7o hX hcl hd ⟨rfl,rfl⟩)
 | .seq a b,s,s',e,h=>by
  simp only [a1w] at h;refine Ok.seq ?_;split at h
  ·rename_i s1 h1
   refine (a1F hX hcl hcp h1).mono ?_;rintro _ _ ⟨rfl,rfl⟩;exact a1F hX hcl hcp h
  ·rename_i hne
   refine (a1F hX hcl hcp h).mono ?_;rintro e1 s1 ⟨h1,h2⟩;rw [h1,h2];cases e with
   | normal=>exact absurd h (hne _)
   | _=>exact ⟨rfl,rfl⟩
 | .cond c a b,s,s',e,h=>by
  simp only [a1w,a8g] at h;have hr:∀ x,a1g s.env c=.prim (.bool x)→∀ ρ a w,Sat C F ρ s a w→a.eval c=.bool x:=fun x hx ρ a w hs=>by
   have:=a0S hs.env c
   rw [hx] at this;generalize a.eval c=v at this;cases this;rfl
  split at h
  ·rename_i hx
   exact Ok.cond true (hr _ hx) (fun _=>a1F hX hcl hcp h) (fun h=>by cases h)
  ·rename_i hx
   exact Ok.cond false (hr _ hx) (fun h=>by cases h) (fun _=>a1F hX hcl hcp h)
  ·cases h
 | .block i b,s,s',e,h=>by
  simp only [a1w] at h;refine Ok.block ?_;split at h
  ·rename_i j s1 h1
   refine (a1F hX hcl hcp h1).mono ?_;rintro _ _ ⟨rfl,rfl⟩;dsimp only;split at h
   ·rename_i hb
    cases h;rw [if_pos (Nat.eq_of_beq_eq_true hb)];exact ⟨rfl,rfl⟩
   ·rename_i hb
    cases h;rw [if_neg (fun hj=>by rw [hj,Nat.beq_refl] at hb;cases hb)];exact ⟨rfl,rfl⟩
  ·rename_i hne
   refine (a1F hX hcl hcp h).mono ?_;rintro e1 s1 ⟨h1,h2⟩;rw [h1,h2];cases e with
   | exit j=>exact absurd h (hne _ _)
   | _=>exact ⟨rfl,rfl⟩
 | .loop b,s,s',e,h=>by
  simp only [a1w] at h;refine Ok.loop (fun m s=>b8w (a1w X cl cp lf b) (lf / 1048576) m s=some (e,s')) h fun m s1 hI=>?_
  cases m with
  | zero=>cases hI
  | succ m =>
   simp only [b8w] at hI;obtain ⟨H2,hsub,hgc⟩:=d1g (α:=Option (Exit × St)) (lf / 1048576) s1.env s1.H (fun H=>match a1w X cl cp lf b ⟨dd s1.env [],H,s1.n⟩ with
    | some (.normal,s')=>b8w (a1w X cl cp lf b) (lf / 1048576) m s'
    | r=>r)
   rw [hgc] at hI;refine Ok.envEq (s2:=⟨dd s1.env [],s1.H,s1.n⟩) (fun t=>b7c _ _ _ (by simp)) rfl rfl ?_;refine Ok.subH hsub ?_;split at hI
   ·rename_i s2 h2
    refine (a1F hX hcl hcp h2).mono ?_;rintro _ _ ⟨rfl,rfl⟩;exact ⟨m,Nat.lt_succ_self m,hI⟩
   ·rename_i hne
    refine (a1F hX hcl hcp hI).mono ?_;rintro e1 s1 ⟨h1,h2⟩;rw [h1,h2];cases e with
    | normal=>exact absurd hI (hne _)
    | _=>exact ⟨rfl,rfl⟩
 | .exit i,s,s',e,h=>by simp only [a1w,Option.some.injEq,Prod.mk.injEq] at h;obtain ⟨rfl,rfl⟩:=h;exact Ok.exit ⟨rfl,rfl⟩
 | .ret,s,s',e,h=>by simp only [a1w,Option.some.injEq,Prod.mk.injEq] at h;obtain ⟨rfl,rfl⟩:=h;exact Ok.ret ⟨rfl,rfl⟩
 | .rangeFunc ..,_,_,_,h=>by simp [a1w] at h
 | .scope _,_,_,_,h=>by simp [a1w] at h
 | .label _,_,_,_,h=>by simp [a1w] at h
 | .goto _,_,_,_,h=>by simp [a1w] at h
 | .refuse _,_,_,_,h=>by simp [a1w] at h
def okR (tt:Nat→Option a0k)(s:St):List ResultVar→Bool
 | []=>true
 | .tmp _::r=>okR tt s r
 | .cell a t::r=>okL tt s.H (fun _=>s.env.get a) (.load t (.tmp 0))&&okR tt s r
theorem b4T {tt:Nat→Option a0k}{s:St}:∀ {rs:List ResultVar} {l:List D} {p:Prop},a6a tt s rs=some (l,p)→okR tt s rs=true→p
 | [],_,_,h,_=>by simp only [a6a,Option.some.injEq,Prod.mk.injEq] at h;obtain ⟨_,rfl⟩:=h;trivial
 | r::rs,l,p,h,hk=>by
  simp only [a6a] at h;split at h<;>first|(cases h;done)|skip
  rename_i d q h1;split at h<;>first|(cases h;done)|skip
  rename_i l' q' h2;cases h;cases r with
  | tmp t =>
   simp only [b0d,Option.some.injEq,Prod.mk.injEq] at h1;obtain ⟨_,rfl⟩:=h1;exact ⟨trivial,b4T h2 hk⟩
  | cell a t =>
   simp only [okR,Bool.and_eq_true] at hk;simp only [b0d] at h1;split at h1<;>first|(cases h1;done)|skip
   rename_i he;cases h1;exact ⟨b8Q he hk.1,b4T h2 hk.2⟩
def c1k (tt:Nat→Option a0k)(s:St)(rs:List ResultVar):Option (D × Hp × Nat):=match b9t tt s rs with
 | some (d,_)=>c1w (okR tt s rs) (d,s.H,s.n)
 | none=>none
theorem b4s {tt:Nat→Option a0k}{s:St}{rs:List ResultVar}{d:D}{H:Hp}{n:Nat}(h:c1k tt s rs=some (d,H,n)):∃ p,b9t tt s rs=some (d,p)∧p∧H=s.H∧n=s.n:=by
 unfold c1k at h;split at h<;>first|(cases h;done)|skip
 rename_i d' p hr;obtain ⟨hb,he⟩:=a2T h;cases he;refine ⟨p,hr,?_,rfl,rfl⟩;unfold b9t at hr;split at hr<;>first|(cases hr;done)|skip
 ·rename_i ha;cases hr;exact b4T ha hb
 ·rename_i ha;cases hr;exact b4T ha hb
def c2j (X:EV)(cl:a7F)(cp:a6Y)(lf f:Nat)(ds:List D)(H:Hp)(n:Nat):Option (D × Hp × Nat):=match X.ft f with
 | some i=>match Nat.ble ds.length i.nt with
  | true=>match a1w X cl cp (lf+n*1048576) i.code ⟨a1h 0 ds,H,n⟩ with
   | some (.normal,s)=>c1k X.tt s i.res
   | some (.ret,s)=>c1k X.tt s i.res
   | _=>none
  | false=>none
 | none=>none
def b4Z (X:EV)(cl:a7F)(cp:a6Y)(lf f:Nat)(ds:List D):Option D:=match X.orc f ds with
 | some d=>some d
 | none=>match X.np f with
  | true=>none
  | false=>match b6r (a6B 20) ds with
   | true=>match c2j X cl cp lf f ds [] 0 with
    | some (d,H,_)=>fzP 20 H d
    | none=>none
   | false=>none
def evF (X:EV)(lf:Nat):Nat→a6Y × a7F
 | 0=>(fun _ _=>none,fun _ _ _ _=>none)
 | fu+1=>(b4Z X (evF X lf fu).2 (evF X lf fu).1 lf,fun f ds H n=>match b4Z X (evF X lf fu).2 (evF X lf fu).1 lf f ds with
  | some d=>some (d,H,n+1)
  | none=>match c2j X (evF X lf fu).2 (evF X lf fu).1 lf f ds H n with
   | some (d,H',n')=>gcR n d H' fun H2=>some (d,H2,n')
   | none=>none)
theorem b5i (hX:a9k C X){lf f:Nat}{ds:List D}{H H':Hp}{n n':Nat}{d:D}(h:c2j X cl cp lf f ds H n=some (d,H',n')) :
  ∃ fn i e s p,X.ft f=some i∧C.P.funcs[f]? = some fn∧fn.body=some i.code∧(fn.name == "runtime.NumGoroutine")=false∧a0E fn.ntmps i.code=true∧Nat.ble ds.length fn.ntmps=true ∧
   (e=.normal∨e=.ret)∧a1w X cl cp (lf+n*1048576) i.code ⟨a1h 0 ds,H,n⟩=some (e,s)∧b9t X.tt s fn.results.toList=some (d,p)∧p∧H'=s.H∧n'=s.n:=by
 unfold c2j at h;split at h<;>first|(cases h;done)|skip
 rename_i i hi;obtain ⟨fn,a1,a2,a3,a4,a5,a6⟩:=hX.ft f i hi;split at h<;>first|(cases h;done)|skip
 rename_i hb;split at h<;>first|(cases h;done)|skip
 ·rename_i s hc
  obtain ⟨p,b1,b2,b3,b4⟩:=b4s h;exact ⟨fn,i,.normal,s,p,hi,a1,a2,a3,a4,by rw [a5];exact hb,.inl rfl,hc,by rw [a6];exact b1,b2,b3,b4⟩
 ·rename_i s hc
  obtain ⟨p,b1,b2,b3,b4⟩:=b4s h;exact ⟨fn,i,.ret,s,p,hi,a1,a2,a3,a4,by rw [a5];exact hb,.inr rfl,hc,by rw [a6];exact b1,b2,b3,b4⟩
theorem b2t (hX:a9k C X)(hcl:a6f C cl)(hcp:a5o C cp){lf f:Nat}{ds:List D}{d:D}(h:b4Z X cl cp lf f ds=some d):a0b C f ds d∧ArePure ds:=by
 unfold b4Z at h;split at h
 ·rename_i ho;cases h;exact hX.orc _ _ _ ho
 ·split at h<;>first|(cases h;done)|skip
  split at h<;>first|(cases h;done)|skip
  rename_i hp;split at h<;>first|(cases h;done)|skip
  rename_i d0 H0 n0 hr;obtain ⟨fn,i,e,s,p,_,a1,a2,a3,a4,a5,a6,a7,a8,a9,rfl,rfl⟩:=b5i hX hr;obtain ⟨z1,z2⟩:=a6K h;refine ⟨a0c.intro hX.tt a1 a2 a3 a4 a5 fun F=>(a1F hX hcl hcp a7).mono ?_,⟨fun x hx=>a0T (a3k hp x hx)⟩⟩;rintro _ _ ⟨rfl,rfl⟩;exact ⟨a6,d0,p,a8,a9,d,z1,z2,rfl⟩
theorem a0m.ofPure {f:Nat}{ds:List D}{d:D}{H:Hp}{n:Nat}(h:a0b C f ds d)(hp:ArePure ds):a0m C f ds H n (isR d H (n+1)):=by
 refine ⟨h.1,fun F ρ w vs m hfr hg hvs hr=>(h.2 (Own F.X ρ H) w vs m.g (Nat.le_trans m.gn m.size) (fun b hb=>m.own_lt hb) hvs fun i x hx=>hp.out x (List.mem_of_getElem? hx) _ _ _ _ _ (hr i x hx)).mono ?_⟩;rintro e w' ⟨v,d',rfl,hb,rfl,hrep⟩;have x:Ext ρ (Own F.X ρ H) w ρ (Own F.X ρ H) w':=⟨hb.size,fun _ _ _ h=>h,fun b hb' hO=>⟨hO,hb.block b hb'⟩,fun b cs T fz hh=>⟨cs,_,by
  rw [hb.block b (Array.getElem?_eq_some_iff.1 hh).1];exact hh,rfl⟩⟩
 exact ⟨v,_,_,_,ρ,rfl,⟨rfl,rfl,rfl⟩,m.same x hb.os hb.tape hb.output hb.block,x,fun k g hg=>hfr k g (by omega),fun e he=>Nat.lt_succ_of_lt (hg e he),hrep.nol⟩
theorem c2R (hX:a9k C X)(lf:Nat):∀ fu,a5o C (evF X lf fu).1∧a6f C (evF X lf fu).2
 | 0=>⟨fun _ _ _ h=>by simp [evF] at h,fun _ _ _ _ _ _ _ h=>by simp [evF] at h⟩
 | fu+1=>by
  obtain ⟨hcp,hcl⟩:=c2R hX lf fu;refine ⟨fun f ds d h=>b2t hX hcl hcp h,fun f ds H n d H' n' h=>?_⟩;simp only [evF] at h;split at h
  ·rename_i d0 hp
   cases h;obtain ⟨h1,h2⟩:=b2t hX hcl hcp hp;exact .ofPure h1 h2
  ·split at h<;>first|(cases h;done)|skip
   rename_i d1 H1 n1 hrun;obtain ⟨H2,hsub,hgc⟩:=d1h (α:=Option (D × Hp × Nat)) n d1 H1 (fun H2=>some (d1,H2,n1));rw [hgc] at h;cases h;refine a0m.subH hsub ?_;obtain ⟨fn,i,e,s,p,_,a1,a2,a3,a4,a5,a6,a7,a8,a9,rfl,rfl⟩:=b5i hX hrun;refine a0m.intro hX.tt a1 a2 a3 a4 a5 fun F _=>(a1F hX hcl hcp a7).mono ?_
   rintro _ _ ⟨rfl,rfl⟩;exact ⟨a6,d,p,a8,a9,rfl,rfl,rfl⟩
theorem a0b.ev (hX:a9k C X)(lf fu:Nat){f:Nat}{ds:List D}{d:D}(h:(evF X lf fu).1 f ds=some d):a0b C f ds d:=((c2R hX lf fu).1 f ds d h).1
end
end
inductive Bt (α:Type) where
 | nil
 | node (k:Nat) (v:α) (l r:Bt α)
def Bt.get {α:Type}:Bt α→Nat→Option α
 | .nil,_=>none
 | .node k v l r,t=>match Nat.beq t k with
  | true=>some v
  | false=>match Nat.ble t k with
   | true=>l.get t
   | false=>r.get t
def Bt.toL {α:Type}:Bt α→List (Nat × α)
 | .nil=>[]
 | .node k v l r=>(k,v)::(l.toL++r.toL)
theorem Bt.get_mem {α:Type}:∀ {b:Bt α} {t:Nat} {v:α},b.get t=some v→(t,v)∈b.toL
 | .nil,_,_,h=>by cases h
 | .node k v l r,t,u,h=>by
  simp only [Bt.get] at h;split at h
  ·rename_i hb;cases h;rw [Nat.eq_of_beq_eq_true hb];exact List.mem_cons_self ..
  ·split at h
   ·exact List.mem_cons_of_mem _ (List.mem_append_left _ (Bt.get_mem h))
   ·exact List.mem_cons_of_mem _ (List.mem_append_right _ (Bt.get_mem h))
theorem Bt.tab {P:Program}{b:Bt a0k}(h:b.toL.map (fun p=>a2N P p.1)=b.toL.map (fun p=>some p.2)):Tab P b.get:=fun t i hi=>by
 have hm:=Bt.get_mem hi;obtain ⟨j,hj,he⟩:=List.getElem_of_mem hm
 have:=congrArg (fun l=>l[j]?) h
 simp only [List.getElem?_map,List.getElem?_eq_getElem hj,he,Option.map_some,Option.some.injEq] at this;exact this
theorem Bt.tabX {P:Program}{b:Bt XI}(h:b.toL.map (fun p=>b3W P p.1)=b.toL.map (fun p=>some p.2)):c2E P b.get:=fun t i hi=>by
 have hm:=Bt.get_mem hi;obtain ⟨j,hj,he⟩:=List.getElem_of_mem hm
 have:=congrArg (fun l=>l[j]?) h
 simp only [List.getElem?_map,List.getElem?_eq_getElem hj,he,Option.map_some,Option.some.injEq] at this;exact this
def FOk (P:Program) (f:Nat) (i:FI):Prop:=∃ fn,P.funcs[f]? = some fn∧fn.body=some i.code∧(fn.name == "runtime.NumGoroutine")=false∧a0E fn.ntmps i.code=true∧fn.ntmps=i.nt∧fn.results.toList=i.res
def c7x (P:Program):Bt FI→Prop
 | .nil=>True
 | .node k v l r=>FOk P k v∧c7x P l∧c7x P r
theorem Bt.ftab {P:Program}:∀ {b:Bt FI},c7x P b→∀ f i,b.get f=some i→FOk P f i
 | .nil,_,_,_,h=>by cases h
 | .node k v l r,h,f,i,hi=>by
  simp only [Bt.get] at hi;split at hi
  ·rename_i hb;cases hi;rw [Nat.eq_of_beq_eq_true hb];exact h.1
  ·split at hi
   ·exact Bt.ftab h.2.1 f i hi
   ·exact Bt.ftab h.2.2 f i hi
def c2U (f:Func):FI:=⟨f.ntmps,f.results.toList,f.body.getD .skip⟩
def d2Z (tt:Nat→Option a0k)(g:Operand→D)(op:Op):Option D:=match evP tt g op with
 | some (d,_)=>match okP tt g op with
  | true=>some d
  | false=>none
 | none=>none
theorem c5t {tt:Nat→Option a0k}{g:Operand→D}{op:Op}{d:D}(h:d2Z tt g op=some d):∃ p,evP tt g op=some (d,p)∧p:=by
 unfold d2Z at h;split at h<;>first|(cases h;done)|skip
 rename_i hp;split at h<;>first|(cases h;done)|skip
 rename_i hk;cases h;exact ⟨_,hp,b8R hp hk⟩
section
variable {C:Ctx} {F:Fra} {s:St} {ops:Array Oper} {o:Oper} {os:List Oper} {K:St→Prop}
theorem OkM.pB {tt:Nat→Option a0k}(htt:Tab C.P tt){m t:Nat}{ks vs:List D}(d:D)(hw:a0N ops s.env o=some true)(he:d2Z tt (a1g s.env) o.op=some d)(hflat:a6Z d)(hd:o.dst=some t)(hne:t≠m)
  (h:OkM C F ops os m ks vs ⟨a1N s.env (some t) d,s.H,s.n+1⟩ K):OkM C F ops (o::os) m ks vs s K:=by
 obtain ⟨p,h1,h2⟩:=c5t he;exact OkM.p htt hw h1 h2 hflat hd hne h
end
end Go.Ide
